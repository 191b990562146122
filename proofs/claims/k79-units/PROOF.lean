import PyProof.Rows.All
import Wide.All
import OpenK.AllK
import Wide.FinOn
import HandS.ForMost
import HandS.Slots
import HandS.SlotsOwn
import HandS.Walk
import HandS.Zip
import HandS.Star
import HandS.Property
import KE.KFmtOwn
import HandS.FStr
import HandS.HeadHook2
import HandS.RaiseMore
import HandS.IsInst
import HandS.TupAny
import HandS.TupMul
import HandS.Style
import HandS.Wide
import KE.KOpsOwn
import HandS.ClsMeth
import HandS.HeadNt
import KE.KStateDown
import HandS.Head0
import HandS.Head1
import HandS.Head2
import HandS.HeadEnd
import PySem.Challenge.RW_twinsheets_k79_whole_units_are_powers
import KE.GoesMore
import KE.GoesEnum
import KE.GoesZip
import PyProof.ListMulRoad
import PyProof.FactsAll.tuple_2
import HandS.Text
import PyProof.Rows.StrReprJoin
import HandS.ListEq
import HandS.Deep
set_option Elab.async false
set_option linter.all false
set_option maxRecDepth 100000
set_option maxHeartbeats 4000000
namespace DL
open PySem PySem.Spec PyProof.Rows L2
/-- the i-th statement of the text; the j-th of the class at i -/
def TOP (i : Nat) : Stmt := (PySem.Challenge.pw_twinsheets_k79_whole_units_are_powers.main.body)[i]?.getD (.Pass ⟨0, 0, 0, 0⟩)
def clsBody : Stmt → List Stmt
  | .ClassDef _ _ _ b _ _ _ _ _ _ _ => b
  | _ => []
def MTH (i j : Nat) : Stmt := (clsBody (TOP i))[j]?.getD (.Pass ⟨0, 0, 0, 0⟩)
abbrev BD (i : Nat) : List Stmt := defBody (TOP i)
abbrev SC (i : Nat) : Scope := defScope (TOP i)
abbrev BDm (i j : Nat) : List Stmt := defBody (MTH i j)
abbrev SCm (i j : Nat) : Scope := defScope (MTH i j)
/-! ### what the head is to tell: printed by wip/gen_tx.py -/
def primesL : List Int := [3, 5, 7, 11, 13, 17, 19, 23, 29, 31]
/-- the getter of the property m -/
def gAd (K : PySem.W.Frag) (C : Addr) (m : Str) : Addr := match PySem.W.recIn K (He.ma K C m) "property" with
  | some (.ref g :: _) => g
  | _ => 0
def sclsB (K : PySem.W.Frag) (C : Addr) : Bool := PySem.W.plainGet K C Str.empty && (PySem.W.isClsIn K C && (PySem.W.plainOver K C && He.eqO (PySem.W.findIn K (.ref C) "__setattr__") (some (some (.builtin "object.__setattr__")))))
theorem sclsB_ok {K : PySem.W.Frag} {C : Addr} (h : sclsB K C = true) : SlX.SCls K C := by
  obtain ⟨c1, h⟩ := He.ba h
  obtain ⟨c2, h⟩ := He.ba h
  obtain ⟨c3, c4⟩ := He.ba h
  exact ⟨c1, c2, c3, He.eqO_ok c4⟩
def slotB (K : PySem.W.Frag) (C : Addr) (f : Str) (j : Nat) : Bool := He.eqO (PySem.W.findIn K (.ref C) f) (some (some (.ref (He.ma K C f)))) && (He.eqO (PySem.W.specialIn K (.ref (He.ma K C f)) "__get__") (some (some (.builtin "member_descriptor.__get__"))) &&
  (decide (PySem.W.takesIn K (.ref (He.ma K C f)) = some true) && (decide (PySem.W.typeIn K (.ref (He.ma K C f)) = some (.type "member_descriptor")) && (decide (PySem.W.slotIn K (He.ma K C f) C = some j) && decide (j < 1000)))))
theorem slotB_ok {K : PySem.W.Frag} {C : Addr} {f : Str} {j : Nat} (h : slotB K C f j = true) : SlX.Slot1 K C f (He.ma K C f) j := by
  obtain ⟨c1, h⟩ := He.ba h
  obtain ⟨c2, h⟩ := He.ba h
  obtain ⟨c3, h⟩ := He.ba h
  obtain ⟨c4, h⟩ := He.ba h
  obtain ⟨c5, c6⟩ := He.ba h
  exact ⟨He.eqO_ok c1, He.eqO_ok c2, of_decide_eq_true c3, of_decide_eq_true c4, of_decide_eq_true c5, of_decide_eq_true c6⟩
def sisiB (K : PySem.W.Frag) (C : Addr) : Bool := He.eqO (PySem.W.findIn K (.ref C) "__class__") (some (some (.builtin "object.__class__"))) && (He.eqO (PySem.W.specialIn K (.builtin "object.__class__") "__get__") (some (some (.builtin "getset_descriptor.__get__"))) &&
  (decide (PySem.W.takesIn K (.builtin "object.__class__") = some true) && decide (PySem.W.mroIn K C (.type "object") = some true)))
theorem sisiB_ok {K : PySem.W.Frag} {C : Addr} (h : sisiB K C = true) : SlX.SIsi K C := by
  obtain ⟨c1, h⟩ := He.ba h
  obtain ⟨c2, h⟩ := He.ba h
  obtain ⟨c3, c4⟩ := He.ba h
  exact ⟨He.eqO_ok c1, He.eqO_ok c2, of_decide_eq_true c3, of_decide_eq_true c4⟩
def propB (K : PySem.W.Frag) (C : Addr) (m : Str) : Bool := He.eqO (PySem.W.findIn K (.ref C) m) (some (some (.ref (He.ma K C m)))) && (He.eqO (PySem.W.specialIn K (.ref (He.ma K C m)) "__get__") (some (some (.builtin "property.__get__"))) &&
  (decide (PySem.W.takesIn K (.ref (He.ma K C m)) = some true) && (match PySem.W.recIn K (He.ma K C m) "property" with
    | some (.ref g :: _) => decide (g = gAd K C m)
    | _ => false)))
/-- a def of the text: where it stands, its name, qualified name, its statement -/
structure DX where
  ad : PySem.W.Frag → Addr
  name : Str
  qual : Str
  st : Stmt
abbrev FnX (K : PySem.W.Frag) (x qual : Str) (st : Stmt) (f : Addr) : Prop := ∃ fd, FunD K x qual (defArgs st) (defBody st) (defScope st) [] [] f fd
def fnX (K : PySem.W.Frag) (a : Addr) : He.FnW := match K.lookup a with
  | some ⟨_, _, .func fd, _⟩ => some (fd.name, fd.qualname, fd.params, fd.body, fd.scope, fd.globals, fd.closure, fd.builtins)
  | _ => none
def DX.val (d : DX) : He.FnW := some (d.name, d.qual, defArgs d.st, .stmts (defBody d.st), defScope d.st, mainGlobals, [], builtinsNs)
def DX.ok (K : PySem.W.Frag) (d : DX) : Bool := PySem.W.keepIn K (.ref (d.ad K)) && (match K.lookup (d.ad K) with
  | some ⟨_, _, .func fd, _⟩ => PySem.W.codeIn K fd.code d.qual && He.dflB K fd.defaults []
  | _ => false)
theorem DX.fn {K : PySem.W.Frag} {d : DX} (e : fnX K (d.ad K) = d.val) (c : d.ok K = true) : FnX K d.name d.qual d.st (d.ad K) := by
  obtain ⟨kp, c2⟩ := He.ba c
  unfold fnX at e
  cases q : K.lookup (d.ad K) with
  | none =>
    rw [q] at c2
    cases c2
  | some o =>
    rcases o with ⟨oc, od, dt, osl⟩
    rw [q] at c2 e
    cases dt with
    | func fd =>
      rcases fd with ⟨n1, n2, n3, n4, n5, n6, n7, n8, n9, n10, n11, n12, n13, n14, n15⟩
      have e2 : (some (n1, n2, n3, n4, n5, n6, n7, n15) : He.FnW) = some (d.name, d.qual, defArgs d.st, .stmts (defBody d.st), defScope d.st, mainGlobals, [], builtinsNs) := e
      simp only [Option.some.injEq, Prod.mk.injEq] at e2
      rcases e2 with ⟨h1, h2, h3, h4, h5, h6, h7, h8⟩
      subst h1 h2 h3 h4 h5 h6 h7 h8
      obtain ⟨k1, k2⟩ := He.ba (show (PySem.W.codeIn K n13 d.qual && He.dflB K n8 []) = true from c2)
      exact ⟨_, ⟨oc, od, n8, n9, n10, n11, n12, n13, n14, osl, rfl, q, k1, He.dflB_ok k2, .inl rfl⟩, kp⟩
    | _ => cases c2
def FA0 : List (PySem.W.Frag → Bool) := [(He.Fa.free "len").ok,
  (He.Fa.free "range").ok,
  (He.Fa.free "tuple").ok,
  (He.Fa.free "list").ok,
  (He.Fa.free "int").ok,
  (He.Fa.free "str").ok,
  (He.Fa.free "max").ok,
  (He.Fa.free "min").ok,
  (He.Fa.free "abs").ok,
  (He.Fa.free "sum").ok,
  (He.Fa.free "all").ok,
  (He.Fa.free "any").ok,
  (He.Fa.free "isinstance").ok,
  (He.Fa.free "enumerate").ok,
  (He.Fa.free "zip").ok,
  (He.Fa.free "repr").ok,
  (He.Fa.free "bool").ok,
  (He.Fa.free "ValueError").ok,
  (He.Fa.glo "is_integer").ok,
  (He.Fa.glo "is_prime").ok,
  (He.Fa.glo "require_prime").ok,
  (He.Fa.glo "require_count").ok,
  (He.Fa.glo "is_residue_of").ok,
  (He.Fa.glo "inverse_of").ok,
  (He.Fa.glo "residue_inverse").ok]
def FA1 : List (PySem.W.Frag → Bool) := [(He.Fa.glo "poly_row").ok,
  (He.Fa.glo "made").ok,
  (He.Fa.glo "are_poly_entries").ok,
  (He.Fa.glo "poly_number").ok,
  (He.Fa.glo "poly_term").ok,
  (He.Fa.glo "poly_text").ok,
  (He.Fa.glo "poly_figures").ok,
  (He.Fa.glo "poly_term_in").ok,
  (He.Fa.glo "poly_row_in").ok,
  (He.Fa.glo "poly_sum").ok,
  (He.Fa.glo "poly_opposite").ok,
  (He.Fa.glo "poly_product").ok,
  (He.Fa.glo "poly_inverse").ok,
  (He.Fa.glo "poly_divided").ok,
  (He.Fa.glo "require_poly").ok,
  (He.Fa.glo "require_same_prime").ok,
  (He.Fa.glo "require_divisor").ok,
  (He.Fa.glo "monic_or_zero").ok,
  (He.Fa.glo "common_of").ok,
  (He.Fa.glo "is_square_free").ok,
  (He.Fa.glo "square_roots").ok,
  (He.Fa.glo "kind_in").ok,
  (He.Fa.glo "rims_in").ok,
  (He.Fa.glo "points_in").ok,
  (He.Fa.glo "require_curve").ok]
def FA2 : List (PySem.W.Frag → Bool) := [(He.Fa.glo "residue_power").ok,
  (He.Fa.glo "shared_part").ok,
  (He.Fa.glo "least_terms").ok,
  (He.Fa.glo "lowered_pair").ok,
  (He.Fa.glo "told_function").ok,
  (He.Fa.glo "require_one_curve").ok,
  (He.Fa.glo "require_two").ok,
  (He.Fa.glo "require_within").ok,
  (He.Fa.glo "root_in").ok,
  (He.Fa.glo "ends_of").ok,
  (He.Fa.glo "function_of").ok,
  (He.Fa.glo "scaled_pair").ok,
  (He.Fa.glo "unit_pair").ok,
  (He.Fa.glo "length_of").ok,
  (He.Fa.glo "least_unit").ok,
  (He.Fa.glo "product_of").ok,
  (He.Fa.glo "unit_power").ok,
  (He.Fa.glo "norm_in").ok,
  (He.Fa.glo "is_unit_of").ok,
  (He.Fa.glo "is_unit").ok,
  (He.Fa.glo "unit_parts").ok,
  (He.Fa.glo "_law_dice").ok,
  (He.Fa.glo "_law_roll").ok,
  (He.Fa.glo "_law_pick").ok,
  (He.Fa.glo "_law_trim").ok]
def FA3 : List (PySem.W.Frag → Bool) := [(He.Fa.glo "_law_plus").ok,
  (He.Fa.glo "_law_turned").ok,
  (He.Fa.glo "_law_less").ok,
  (He.Fa.glo "_law_times").ok,
  (He.Fa.glo "_law_inverse").ok,
  (He.Fa.glo "_law_divided").ok,
  (He.Fa.glo "_law_rest").ok,
  (He.Fa.glo "_law_monic").ok,
  (He.Fa.glo "_law_common").ok,
  (He.Fa.glo "_law_slope").ok,
  (He.Fa.glo "_law_is_free").ok,
  (He.Fa.glo "_law_row_drawn").ok,
  (He.Fa.glo "_law_free_drawn").ok,
  (He.Fa.glo "_law_free_made").ok,
  (He.Fa.glo "_law_sheet_of").ok,
  (He.Fa.glo "_law_even_curve").ok,
  (He.Fa.glo "_law_root_row").ok,
  (He.Fa.glo "_law_round_rows").ok,
  (He.Fa.glo "_law_norm_of").ok,
  (He.Fa.glo "_law_scaled").ok,
  (He.Fa.glo "_law_product_pair").ok,
  (He.Fa.glo "_law_own_power").ok,
  (He.Fa.glo "_law_plain").ok,
  (He.Fa.glo "_law_near").ok,
  (He.Fa.glo "_law_is_own").ok]
def FA4 : List (PySem.W.Frag → Bool) := [(He.Fa.glo "_law_right").ok,
  (He.Fa.glo "is_whole_numbers").ok,
  (He.Fa.glo "is_whole_chains").ok,
  (He.Fa.glo "Entries").ok,
  (He.Fa.glo "Poly").ok,
  (He.Fa.glo "Curve").ok,
  (He.Fa.glo "Function").ok,
  (He.Fa.glo "Steps").ok,
  (He.Fa.glo "Round").ok,
  (He.Fa.int "GREAT" (10 ^ 60)).ok,
  (He.Fa.int "MAX_ENTRIES" (1000)).ok,
  (He.Fa.int "MOST_SIGNS" (9000)).ok,
  (He.Fa.int "MOST_FIGURES" (3)).ok,
  (He.Fa.int "MAX_DEGREE" (8)).ok,
  (He.Fa.int "MAX_LENGTH" (2000)).ok,
  (He.Fa.int "MAX_POWER_chains" (60)).ok,
  (He.Fa.str "FIGURES" "0123456789").ok,
  (He.Fa.str "LETTER" "x").ok,
  (He.Fa.str "RIM" "rim").ok,
  (He.Fa.str "ONE" "one").ok,
  (He.Fa.str "TWO" "two").ok,
  (He.Fa.str "NONE" "none").ok,
  (He.Fa.str "KIND" "two").ok,
  (He.Fa.glo "PRIMES").ok,
  (fun K => He.tupB K "PRIMES" (primesL.map He.Dv.int))]
def FA5 : List (PySem.W.Frag → Bool) := [(fun K => sclsB K (He.ga K "Entries")),
  (fun K => slotB K (He.ga K "Entries") "own_row" 0),
  (He.Fa.mkr "Entries").ok,
  (fun K => sclsB K (He.ga K "Poly")),
  (fun K => slotB K (He.ga K "Poly") "own_entries" 0),
  (fun K => slotB K (He.ga K "Poly") "own_lead" 1),
  (fun K => slotB K (He.ga K "Poly") "own_number" 2),
  (fun K => slotB K (He.ga K "Poly") "own_prime" 3),
  (fun K => slotB K (He.ga K "Poly") "own_text" 4),
  (He.Fa.mkr "Poly").ok,
  (He.Fa.meth "Poly" "__add__").ok,
  (He.Fa.meth "Poly" "__sub__").ok,
  (He.Fa.meth "Poly" "__mul__").ok,
  (He.Fa.meth "Poly" "__floordiv__").ok,
  (He.Fa.meth "Poly" "__mod__").ok,
  (He.Fa.meth "Poly" "__neg__").ok,
  (He.Fa.meth "Poly" "__call__").ok,
  (He.Fa.meth "Poly" "__getitem__").ok,
  (He.Fa.meth "Poly" "monic").ok,
  (He.Fa.meth "Poly" "scaled").ok,
  (He.Fa.meth "Poly" "derivative").ok,
  (He.Fa.meth "Poly" "__eq__").ok,
  (He.Fa.meth "Poly" "__str__").ok,
  (fun K => propB K (He.ga K "Poly") "prime"),
  (fun K => propB K (He.ga K "Poly") "entries")]
def FA6 : List (PySem.W.Frag → Bool) := [(fun K => propB K (He.ga K "Poly") "degree"),
  (fun K => propB K (He.ga K "Poly") "lead"),
  (fun K => propB K (He.ga K "Poly") "is_zero"),
  (fun K => sclsB K (He.ga K "Curve")),
  (fun K => slotB K (He.ga K "Curve") "own_f" 0),
  (fun K => slotB K (He.ga K "Curve") "own_genus" 1),
  (fun K => slotB K (He.ga K "Curve") "own_kind" 2),
  (fun K => slotB K (He.ga K "Curve") "own_points" 3),
  (fun K => slotB K (He.ga K "Curve") "own_prime" 4),
  (fun K => slotB K (He.ga K "Curve") "own_rims" 5),
  (fun K => slotB K (He.ga K "Curve") "own_text" 6),
  (He.Fa.mkr "Curve").ok,
  (He.Fa.meth "Curve" "__eq__").ok,
  (fun K => propB K (He.ga K "Curve") "f"),
  (fun K => propB K (He.ga K "Curve") "prime"),
  (fun K => propB K (He.ga K "Curve") "kind"),
  (fun K => propB K (He.ga K "Curve") "genus"),
  (fun K => propB K (He.ga K "Curve") "rims"),
  (fun K => sclsB K (He.ga K "Function")),
  (fun K => slotB K (He.ga K "Function") "own_a" 0),
  (fun K => slotB K (He.ga K "Function") "own_b" 1),
  (fun K => slotB K (He.ga K "Function") "own_c" 2),
  (fun K => slotB K (He.ga K "Function") "own_curve" 3),
  (fun K => slotB K (He.ga K "Function") "own_is_residue" 4),
  (fun K => slotB K (He.ga K "Function") "own_is_zero" 5)]
def FA7 : List (PySem.W.Frag → Bool) := [(fun K => slotB K (He.ga K "Function") "own_norm" 6),
  (fun K => slotB K (He.ga K "Function") "own_size" 7),
  (fun K => slotB K (He.ga K "Function") "own_text" 8),
  (He.Fa.mkr "Function").ok,
  (He.Fa.meth "Function" "__add__").ok,
  (He.Fa.meth "Function" "__eq__").ok,
  (fun K => propB K (He.ga K "Function") "curve"),
  (fun K => propB K (He.ga K "Function") "a"),
  (fun K => propB K (He.ga K "Function") "b"),
  (fun K => propB K (He.ga K "Function") "c"),
  (fun K => sclsB K (He.ga K "Steps")),
  (fun K => slotB K (He.ga K "Steps") "own_f" 0),
  (fun K => slotB K (He.ga K "Steps") "own_p" 1),
  (fun K => slotB K (He.ga K "Steps") "own_q" 2),
  (fun K => slotB K (He.ga K "Steps") "own_root" 3),
  (He.Fa.mkr "Steps").ok,
  (He.Fa.meth "Steps" "go_on").ok,
  (He.Fa.meth "Steps" "is_round").ok,
  (fun K => sclsB K (He.ga K "Round")),
  (fun K => slotB K (He.ga K "Round") "own_last" 0),
  (fun K => slotB K (He.ga K "Round") "own_length" 1),
  (fun K => slotB K (He.ga K "Round") "own_rows" 2),
  (He.Fa.mkr "Round").ok,
  (He.Fa.meth "Round" "top").ok,
  (He.Fa.meth "Round" "unit_norm").ok]
def FA8 : List (PySem.W.Frag → Bool) := [(fun K => sisiB K (He.ga K "Poly")),
  (fun K => sisiB K (He.ga K "Curve")),
  (fun K => sisiB K (He.ga K "Function")),
  (fun K => sisiB K (He.ga K "Entries")),
  (fun K => PySem.W.selfFirst K (He.ga K "Poly")),
  (fun K => PySem.W.notFirst K (He.ga K "Poly") (.ref (He.ga K "Poly"))),
  (fun K => decide (PySem.W.mroIn K (He.ga K "Poly") (.type "object") = some true)),
  (fun K => He.eqO (PySem.W.findIn K (.ref (He.ga K "Poly")) "__ne__") (some (some (.builtin "object.__ne__")))),
  (fun K => PySem.W.selfFirst K (He.ga K "Curve")),
  (fun K => PySem.W.notFirst K (He.ga K "Curve") (.ref (He.ga K "Curve"))),
  (fun K => decide (PySem.W.mroIn K (He.ga K "Curve") (.type "object") = some true)),
  (fun K => He.eqO (PySem.W.findIn K (.ref (He.ga K "Curve")) "__ne__") (some (some (.builtin "object.__ne__")))),
  (fun K => PySem.W.selfFirst K (He.ga K "Function")),
  (fun K => PySem.W.notFirst K (He.ga K "Function") (.ref (He.ga K "Function"))),
  (fun K => decide (PySem.W.mroIn K (He.ga K "Function") (.type "object") = some true)),
  (fun K => He.eqO (PySem.W.findIn K (.ref (He.ga K "Function")) "__ne__") (some (some (.builtin "object.__ne__")))),
  (fun K => He.eqO (PySem.W.findIn K (.ref (He.ga K "Poly")) "__format__") (some (some (.builtin "object.__format__")))),
  (fun K => PySem.W.fnIn K (He.ma K (He.ga K "Poly") "__getitem__")),
  (fun K => PySem.W.fnIn K (He.ma K (He.ga K "Poly") "__call__")),
  (fun K => decide (PySem.W.kitOne K (.ref (He.ga K "Poly")) (.ref (He.ga K "Poly")) = some true)),
  (fun K => decide (PySem.W.kitOne K (.ref (He.ga K "Poly")) (.ref (He.ga K "Curve")) = some false)),
  (fun K => decide (PySem.W.kitOne K (.ref (He.ga K "Poly")) (.ref (He.ga K "Function")) = some false)),
  (fun K => decide (PySem.W.kitOne K (.ref (He.ga K "Poly")) (.ref (He.ga K "Entries")) = some false)),
  (fun K => decide (PySem.W.kitOne K (.ref (He.ga K "Curve")) (.ref (He.ga K "Poly")) = some false)),
  (fun K => decide (PySem.W.kitOne K (.ref (He.ga K "Curve")) (.ref (He.ga K "Curve")) = some true))]
def FA9 : List (PySem.W.Frag → Bool) := [(fun K => decide (PySem.W.kitOne K (.ref (He.ga K "Curve")) (.ref (He.ga K "Function")) = some false)),
  (fun K => decide (PySem.W.kitOne K (.ref (He.ga K "Curve")) (.ref (He.ga K "Entries")) = some false)),
  (fun K => decide (PySem.W.kitOne K (.ref (He.ga K "Function")) (.ref (He.ga K "Poly")) = some false)),
  (fun K => decide (PySem.W.kitOne K (.ref (He.ga K "Function")) (.ref (He.ga K "Curve")) = some false)),
  (fun K => decide (PySem.W.kitOne K (.ref (He.ga K "Function")) (.ref (He.ga K "Function")) = some true)),
  (fun K => decide (PySem.W.kitOne K (.ref (He.ga K "Function")) (.ref (He.ga K "Entries")) = some false)),
  (fun K => decide (PySem.W.kitOne K (.ref (He.ga K "Entries")) (.ref (He.ga K "Poly")) = some false)),
  (fun K => decide (PySem.W.kitOne K (.ref (He.ga K "Entries")) (.ref (He.ga K "Curve")) = some false)),
  (fun K => decide (PySem.W.kitOne K (.ref (He.ga K "Entries")) (.ref (He.ga K "Function")) = some false)),
  (fun K => decide (PySem.W.kitOne K (.ref (He.ga K "Entries")) (.ref (He.ga K "Entries")) = some true)),
  (fun K => decide (PySem.W.kitOne K (.type "tuple") (.ref (He.ga K "Poly")) = some false)),
  (fun K => decide (PySem.W.kitOne K (.type "tuple") (.ref (He.ga K "Curve")) = some false)),
  (fun K => decide (PySem.W.kitOne K (.type "tuple") (.ref (He.ga K "Function")) = some false)),
  (fun K => decide (PySem.W.kitOne K (.type "tuple") (.ref (He.ga K "Entries")) = some false)),
  (fun K => decide (PySem.W.kitOne K (.type "NoneType") (.ref (He.ga K "Poly")) = some false)),
  (fun K => decide (PySem.W.kitOne K (.type "NoneType") (.ref (He.ga K "Curve")) = some false)),
  (fun K => decide (PySem.W.kitOne K (.type "NoneType") (.ref (He.ga K "Function")) = some false)),
  (fun K => decide (PySem.W.kitOne K (.type "NoneType") (.ref (He.ga K "Entries")) = some false)),
  (fun K => decide (PySem.W.kitOne K (.type "int") (.ref (He.ga K "Poly")) = some false)),
  (fun K => decide (PySem.W.kitOne K (.type "int") (.ref (He.ga K "Curve")) = some false)),
  (fun K => decide (PySem.W.kitOne K (.type "int") (.ref (He.ga K "Function")) = some false)),
  (fun K => decide (PySem.W.kitOne K (.type "int") (.ref (He.ga K "Entries")) = some false)),
  (fun K => decide (PySem.W.kitOne K (.type "int") (.type "int") = some true)),
  (fun K => decide (PySem.W.kitOne K (.type "int") (.type "bool") = some false)),
  (fun K => decide (PySem.W.kitOne K (.type "tuple") (.type "tuple") = some true))]
def FA10 : List (PySem.W.Frag → Bool) := [(fun K => decide (PySem.W.kitOne K (.type "str") (.type "str") = some true)),
  (fun K => decide (PySem.W.kitOne K (.type "tuple") (.type "int") = some false)),
  (fun K => decide (PySem.W.kitOne K (.type "NoneType") (.type "int") = some false))]
def DF0 : List DX := [⟨fun K => He.ga K "is_integer", "is_integer", "is_integer", TOP 16⟩,
  ⟨fun K => He.ga K "is_prime", "is_prime", "is_prime", TOP 17⟩,
  ⟨fun K => He.ga K "require_prime", "require_prime", "require_prime", TOP 18⟩,
  ⟨fun K => He.ga K "require_count", "require_count", "require_count", TOP 19⟩,
  ⟨fun K => He.ga K "is_residue_of", "is_residue_of", "is_residue_of", TOP 20⟩,
  ⟨fun K => He.ga K "inverse_of", "inverse_of", "inverse_of", TOP 21⟩,
  ⟨fun K => He.ga K "residue_inverse", "residue_inverse", "residue_inverse", TOP 22⟩,
  ⟨fun K => He.ga K "poly_row", "poly_row", "poly_row", TOP 31⟩,
  ⟨fun K => He.ga K "made", "made", "made", TOP 32⟩,
  ⟨fun K => He.ga K "are_poly_entries", "are_poly_entries", "are_poly_entries", TOP 34⟩,
  ⟨fun K => He.ga K "poly_number", "poly_number", "poly_number", TOP 35⟩,
  ⟨fun K => He.ga K "poly_term", "poly_term", "poly_term", TOP 36⟩,
  ⟨fun K => He.ga K "poly_text", "poly_text", "poly_text", TOP 37⟩,
  ⟨fun K => He.ga K "poly_figures", "poly_figures", "poly_figures", TOP 38⟩,
  ⟨fun K => He.ga K "poly_term_in", "poly_term_in", "poly_term_in", TOP 39⟩,
  ⟨fun K => He.ga K "poly_row_in", "poly_row_in", "poly_row_in", TOP 40⟩,
  ⟨fun K => He.ga K "poly_sum", "poly_sum", "poly_sum", TOP 41⟩,
  ⟨fun K => He.ga K "poly_opposite", "poly_opposite", "poly_opposite", TOP 42⟩,
  ⟨fun K => He.ga K "poly_product", "poly_product", "poly_product", TOP 43⟩,
  ⟨fun K => He.ga K "poly_inverse", "poly_inverse", "poly_inverse", TOP 44⟩,
  ⟨fun K => He.ga K "poly_divided", "poly_divided", "poly_divided", TOP 45⟩,
  ⟨fun K => He.ga K "require_poly", "require_poly", "require_poly", TOP 47⟩,
  ⟨fun K => He.ga K "require_same_prime", "require_same_prime", "require_same_prime", TOP 48⟩,
  ⟨fun K => He.ga K "require_divisor", "require_divisor", "require_divisor", TOP 49⟩,
  ⟨fun K => He.ga K "monic_or_zero", "monic_or_zero", "monic_or_zero", TOP 51⟩]
def DF1 : List DX := [⟨fun K => He.ga K "common_of", "common_of", "common_of", TOP 52⟩,
  ⟨fun K => He.ga K "is_square_free", "is_square_free", "is_square_free", TOP 53⟩,
  ⟨fun K => He.ga K "square_roots", "square_roots", "square_roots", TOP 60⟩,
  ⟨fun K => He.ga K "kind_in", "kind_in", "kind_in", TOP 61⟩,
  ⟨fun K => He.ga K "rims_in", "rims_in", "rims_in", TOP 62⟩,
  ⟨fun K => He.ga K "points_in", "points_in", "points_in", TOP 63⟩,
  ⟨fun K => He.ga K "require_curve", "require_curve", "require_curve", TOP 66⟩,
  ⟨fun K => He.ga K "residue_power", "residue_power", "residue_power", TOP 68⟩,
  ⟨fun K => He.ga K "shared_part", "shared_part", "shared_part", TOP 71⟩,
  ⟨fun K => He.ga K "least_terms", "least_terms", "least_terms", TOP 72⟩,
  ⟨fun K => He.ga K "lowered_pair", "lowered_pair", "lowered_pair", TOP 73⟩,
  ⟨fun K => He.ga K "told_function", "told_function", "told_function", TOP 74⟩,
  ⟨fun K => He.ga K "require_one_curve", "require_one_curve", "require_one_curve", TOP 77⟩,
  ⟨fun K => He.ga K "require_two", "require_two", "require_two", TOP 82⟩,
  ⟨fun K => He.ga K "require_within", "require_within", "require_within", TOP 83⟩,
  ⟨fun K => He.ga K "root_in", "root_in", "root_in", TOP 84⟩,
  ⟨fun K => He.ga K "ends_of", "ends_of", "ends_of", TOP 87⟩,
  ⟨fun K => He.ga K "function_of", "function_of", "function_of", TOP 88⟩,
  ⟨fun K => He.ga K "scaled_pair", "scaled_pair", "scaled_pair", TOP 89⟩,
  ⟨fun K => He.ga K "unit_pair", "unit_pair", "unit_pair", TOP 90⟩,
  ⟨fun K => He.ga K "length_of", "length_of", "length_of", TOP 91⟩,
  ⟨fun K => He.ga K "least_unit", "least_unit", "least_unit", TOP 92⟩,
  ⟨fun K => He.ga K "product_of", "product_of", "product_of", TOP 93⟩,
  ⟨fun K => He.ga K "unit_power", "unit_power", "unit_power", TOP 94⟩,
  ⟨fun K => He.ga K "norm_in", "norm_in", "norm_in", TOP 97⟩]
def DF2 : List DX := [⟨fun K => He.ga K "is_unit_of", "is_unit_of", "is_unit_of", TOP 98⟩,
  ⟨fun K => He.ga K "is_unit", "is_unit", "is_unit", TOP 99⟩,
  ⟨fun K => He.ga K "unit_parts", "unit_parts", "unit_parts", TOP 100⟩,
  ⟨fun K => He.ga K "_law_dice", "_law_dice", "_law_dice", TOP 102⟩,
  ⟨fun K => He.ga K "_law_roll", "_law_roll", "_law_roll", TOP 103⟩,
  ⟨fun K => He.ga K "_law_pick", "_law_pick", "_law_pick", TOP 104⟩,
  ⟨fun K => He.ga K "_law_trim", "_law_trim", "_law_trim", TOP 105⟩,
  ⟨fun K => He.ga K "_law_plus", "_law_plus", "_law_plus", TOP 106⟩,
  ⟨fun K => He.ga K "_law_turned", "_law_turned", "_law_turned", TOP 107⟩,
  ⟨fun K => He.ga K "_law_less", "_law_less", "_law_less", TOP 108⟩,
  ⟨fun K => He.ga K "_law_times", "_law_times", "_law_times", TOP 109⟩,
  ⟨fun K => He.ga K "_law_inverse", "_law_inverse", "_law_inverse", TOP 110⟩,
  ⟨fun K => He.ga K "_law_divided", "_law_divided", "_law_divided", TOP 111⟩,
  ⟨fun K => He.ga K "_law_rest", "_law_rest", "_law_rest", TOP 112⟩,
  ⟨fun K => He.ga K "_law_monic", "_law_monic", "_law_monic", TOP 113⟩,
  ⟨fun K => He.ga K "_law_common", "_law_common", "_law_common", TOP 114⟩,
  ⟨fun K => He.ga K "_law_slope", "_law_slope", "_law_slope", TOP 115⟩,
  ⟨fun K => He.ga K "_law_is_free", "_law_is_free", "_law_is_free", TOP 116⟩,
  ⟨fun K => He.ga K "_law_row_drawn", "_law_row_drawn", "_law_row_drawn", TOP 117⟩,
  ⟨fun K => He.ga K "_law_free_drawn", "_law_free_drawn", "_law_free_drawn", TOP 118⟩,
  ⟨fun K => He.ga K "_law_free_made", "_law_free_made", "_law_free_made", TOP 119⟩,
  ⟨fun K => He.ga K "_law_sheet_of", "_law_sheet_of", "_law_sheet_of", TOP 120⟩,
  ⟨fun K => He.ga K "_law_even_curve", "_law_even_curve", "_law_even_curve", TOP 121⟩,
  ⟨fun K => He.ga K "_law_root_row", "_law_root_row", "_law_root_row", TOP 122⟩,
  ⟨fun K => He.ga K "_law_round_rows", "_law_round_rows", "_law_round_rows", TOP 123⟩]
def DF3 : List DX := [⟨fun K => He.ga K "_law_norm_of", "_law_norm_of", "_law_norm_of", TOP 124⟩,
  ⟨fun K => He.ga K "_law_scaled", "_law_scaled", "_law_scaled", TOP 125⟩,
  ⟨fun K => He.ga K "_law_product_pair", "_law_product_pair", "_law_product_pair", TOP 126⟩,
  ⟨fun K => He.ga K "_law_own_power", "_law_own_power", "_law_own_power", TOP 127⟩,
  ⟨fun K => He.ga K "_law_plain", "_law_plain", "_law_plain", TOP 128⟩,
  ⟨fun K => He.ga K "_law_near", "_law_near", "_law_near", TOP 129⟩,
  ⟨fun K => He.ga K "_law_is_own", "_law_is_own", "_law_is_own", TOP 130⟩,
  ⟨fun K => He.ga K "_law_right", "_law_right", "_law_right", TOP 131⟩,
  ⟨fun K => He.ga K "is_whole_numbers", "is_whole", "is_whole", TOP 14⟩,
  ⟨fun K => He.ga K "is_whole_chains", "is_whole", "is_whole", TOP 95⟩,
  ⟨fun K => He.ga K "law", "law", "law", TOP 132⟩,
  ⟨fun K => He.ma K (He.ga K "Entries") "__init__", "__init__", "Entries.__init__", MTH 30 1⟩,
  ⟨fun K => He.ma K (He.ga K "Poly") "__init__", "__init__", "Poly.__init__", MTH 46 1⟩,
  ⟨fun K => He.ma K (He.ga K "Poly") "__add__", "__add__", "Poly.__add__", MTH 46 10⟩,
  ⟨fun K => He.ma K (He.ga K "Poly") "__sub__", "__sub__", "Poly.__sub__", MTH 46 11⟩,
  ⟨fun K => He.ma K (He.ga K "Poly") "__mul__", "__mul__", "Poly.__mul__", MTH 46 12⟩,
  ⟨fun K => He.ma K (He.ga K "Poly") "__floordiv__", "__floordiv__", "Poly.__floordiv__", MTH 46 13⟩,
  ⟨fun K => He.ma K (He.ga K "Poly") "__mod__", "__mod__", "Poly.__mod__", MTH 46 14⟩,
  ⟨fun K => He.ma K (He.ga K "Poly") "__neg__", "__neg__", "Poly.__neg__", MTH 46 15⟩,
  ⟨fun K => He.ma K (He.ga K "Poly") "__call__", "__call__", "Poly.__call__", MTH 46 16⟩,
  ⟨fun K => He.ma K (He.ga K "Poly") "__getitem__", "__getitem__", "Poly.__getitem__", MTH 46 17⟩,
  ⟨fun K => He.ma K (He.ga K "Poly") "monic", "monic", "Poly.monic", MTH 46 19⟩,
  ⟨fun K => He.ma K (He.ga K "Poly") "scaled", "scaled", "Poly.scaled", MTH 46 20⟩,
  ⟨fun K => He.ma K (He.ga K "Poly") "derivative", "derivative", "Poly.derivative", MTH 46 21⟩,
  ⟨fun K => He.ma K (He.ga K "Poly") "__eq__", "__eq__", "Poly.__eq__", MTH 46 25⟩]
def DF4 : List DX := [⟨fun K => He.ma K (He.ga K "Poly") "__str__", "__str__", "Poly.__str__", MTH 46 26⟩,
  ⟨fun K => gAd K (He.ga K "Poly") "prime", "prime", "Poly.prime", MTH 46 3⟩,
  ⟨fun K => gAd K (He.ga K "Poly") "entries", "entries", "Poly.entries", MTH 46 4⟩,
  ⟨fun K => gAd K (He.ga K "Poly") "degree", "degree", "Poly.degree", MTH 46 5⟩,
  ⟨fun K => gAd K (He.ga K "Poly") "lead", "lead", "Poly.lead", MTH 46 6⟩,
  ⟨fun K => gAd K (He.ga K "Poly") "is_zero", "is_zero", "Poly.is_zero", MTH 46 8⟩,
  ⟨fun K => He.ma K (He.ga K "Curve") "__init__", "__init__", "Curve.__init__", MTH 65 1⟩,
  ⟨fun K => He.ma K (He.ga K "Curve") "__eq__", "__eq__", "Curve.__eq__", MTH 65 13⟩,
  ⟨fun K => gAd K (He.ga K "Curve") "f", "f", "Curve.f", MTH 65 3⟩,
  ⟨fun K => gAd K (He.ga K "Curve") "prime", "prime", "Curve.prime", MTH 65 4⟩,
  ⟨fun K => gAd K (He.ga K "Curve") "kind", "kind", "Curve.kind", MTH 65 5⟩,
  ⟨fun K => gAd K (He.ga K "Curve") "genus", "genus", "Curve.genus", MTH 65 6⟩,
  ⟨fun K => gAd K (He.ga K "Curve") "rims", "rims", "Curve.rims", MTH 65 7⟩,
  ⟨fun K => He.ma K (He.ga K "Function") "__init__", "__init__", "Function.__init__", MTH 75 1⟩,
  ⟨fun K => He.ma K (He.ga K "Function") "__add__", "__add__", "Function.__add__", MTH 75 14⟩,
  ⟨fun K => He.ma K (He.ga K "Function") "__eq__", "__eq__", "Function.__eq__", MTH 75 18⟩,
  ⟨fun K => gAd K (He.ga K "Function") "curve", "curve", "Function.curve", MTH 75 2⟩,
  ⟨fun K => gAd K (He.ga K "Function") "a", "a", "Function.a", MTH 75 3⟩,
  ⟨fun K => gAd K (He.ga K "Function") "b", "b", "Function.b", MTH 75 4⟩,
  ⟨fun K => gAd K (He.ga K "Function") "c", "c", "Function.c", MTH 75 5⟩,
  ⟨fun K => He.ma K (He.ga K "Steps") "__init__", "__init__", "Steps.__init__", MTH 85 1⟩,
  ⟨fun K => He.ma K (He.ga K "Steps") "go_on", "go_on", "Steps.go_on", MTH 85 2⟩,
  ⟨fun K => He.ma K (He.ga K "Steps") "is_round", "is_round", "Steps.is_round", MTH 85 3⟩,
  ⟨fun K => He.ma K (He.ga K "Round") "__init__", "__init__", "Round.__init__", MTH 86 1⟩,
  ⟨fun K => He.ma K (He.ga K "Round") "top", "top", "Round.top", MTH 86 2⟩]
def DF5 : List DX := [⟨fun K => He.ma K (He.ga K "Round") "unit_norm", "unit_norm", "Round.unit_norm", MTH 86 3⟩]
def FAs : List (List (PySem.W.Frag → Bool)) := [FA0, FA1, FA2, FA3, FA4, FA5, FA6, FA7, FA8, FA9, FA10]
def DFs : List (List DX) := [DF0, DF1, DF2, DF3, DF4, DF5]
abbrev rdA (K : PySem.W.Frag) (c : Str) : Addr := He5.wf K (He.ga K c) "classmethod" "read"
def FAr : List (PySem.W.Frag → Bool) := [(fun K => PySem.W.readsIn K (He.ga K "Poly") (.type "type")), (fun K => PySem.W.readsIn K (He.ga K "Curve") (.type "type")),
  (fun K => He5.wrapB K (He.ga K "Poly") "classmethod" "classmethod.__get__" "read" && PySem.W.fnIn K (rdA K "Poly")), (fun K => He5.wrapB K (He.ga K "Curve") "classmethod" "classmethod.__get__" "read" && PySem.W.fnIn K (rdA K "Curve")),
  (He.Fa.glo "law").ok]
def DFr : List DX := [⟨fun K => rdA K "Poly", "read", "Poly.read", MTH 46 2⟩, ⟨fun K => rdA K "Curve", "read", "Curve.read", MTH 65 2⟩]
end DL
set_option maxHeartbeats 0
namespace DL
open PySem PySem.Spec PyProof.Rows L2 HandSHeadRun
/-! ### the head: the text is run to its end; what it leaves is looked at in four runs (a run's memory is freed behind each) -/
/-- what an object names, as far as it is looked at -/
def refsX (o : Obj) : List Addr := match o.data with
  | .dict es _ => es.toList.flatMap fun e => He.refV e.val
  | .func fd => He.refV fd.code
  | .cls cd => [cd.ns]
  | .fields vs => vs.toList.flatMap He.refV
  | .seq its _ => its.toList.flatMap He.refV
  | _ => []
def stepX (g : Addr → Option Obj) (as : List Addr) : List Addr := as.flatMap fun a => match g a with
  | some o => refsX o
  | none => []
def goX (g : Addr → Option Obj) : Nat → List Addr → List Addr
  | 0, as => as
  | n + 1, as => as ++ goX g n (stepX g as)
def frX (g : Addr → Option Obj) : PySem.W.Frag := He.frG g (goX g 5 [mainGlobals] ++ [cStatics])
def obF (K : PySem.W.Frag) : Bool := (FAs ++ [FAr]).all fun l => l.all fun f => f K
abbrev AlD : Type := Bool × List He.FnW
def obD (ds : List (List DX)) (K : PySem.W.Frag) : AlD := (ds.all fun l => l.all fun d => d.ok K, ds.flatMap fun l => l.map fun d => fnX K (d.ad K))
def vaD (ds : List (List DX)) : AlD := (true, ds.flatMap fun l => l.map DX.val)
def DFsA : List (List DX) := DFs.take 3
def DFsB : List (List DX) := DFs.drop 3 ++ [DFr]
abbrev AlX : Type := Bool × AlD × AlD
def obsX (K : PySem.W.Frag) : AlX := (obF K, obD DFsA K, obD DFsB K)
def valX : AlX := (true, vaD DFsA, vaD DFsB)
def hookX : PySem.W.Hook where
  α := AlX
  obs := fun s => obsX (frX s.heap.get?)
  val := fun _ => valX
  says := fun _ h => ∃ K : PySem.W.Frag, K.In h ∧ obsX K = valX
  of := fun _ _ e => ⟨_, He.frG_in, e⟩
  keeps := fun _ _ _ ⟨K, hK, c⟩ k => ⟨K, PySem.W.Frag.In.keeps hK k, c⟩
def obX (s : PySem.W.SharedT) : AlX := obsX (frX (getT s))
theorem obX_eq (s : PySem.W.SharedT) : obX s = hookX.obs s.abs := by
  have e : getT s = s.abs.heap.get? := funext (getT_eq s)
  unfold obX
  rw [e] <;> rfl
abbrev Rw : PySem.W.OpenRow := PySem.W.OpenLaw.row PySem.Challenge.rw_twinsheets_k79_whole_units_are_powers
abbrev qw : Program := PySem.W.view Rw.prog [132]
def nms0 : List Str := ["_wall", "CurveError", "InvalidPrime", "InvalidPoly", "InvalidCurve", "InvalidFunction", "InvalidOperation", "ParseError", "InvalidCount", "TooMany", "PRIMES", "GREAT", "is_whole", "is_whole_numbers", "is_integer", "is_prime", "require_prime", "require_count", "is_residue_of", "inverse_of", "residue_inverse", "MAX_ENTRIES", "MAX_POWER_polys", "MOST_SIGNS", "MOST_FIGURES", "FIGURES", "LETTER", "Entries", "poly_row", "made"]
def nms1 : List Str := ["constant", "are_poly_entries", "poly_number", "poly_term", "poly_text", "poly_figures", "poly_term_in", "poly_row_in", "poly_sum", "poly_opposite", "poly_product", "poly_inverse", "poly_divided", "Poly", "require_poly", "require_same_prime", "require_divisor", "monic_or_zero", "common_of", "is_square_free", "MAX_DEGREE", "RIM", "ONE", "TWO", "NONE", "square_roots", "kind_in", "rims_in", "points_in", "is_plain"]
def nms2 : List Str := ["Curve", "require_curve", "residue_power", "MAX_POWER_functions", "shared_part", "least_terms", "lowered_pair", "told_function", "Function", "require_function", "require_one_curve", "MAX_LENGTH", "MAX_POWER_chains", "KIND", "require_two", "require_within", "root_in", "Steps", "Round", "ends_of", "function_of", "scaled_pair", "unit_pair", "length_of", "least_unit", "product_of", "unit_power", "is_whole_chains", "norm_in", "is_unit_of"]
def nms3 : List Str := ["is_unit", "unit_parts", "_law_dice", "_law_roll", "_law_pick", "_law_trim", "_law_plus", "_law_turned", "_law_less", "_law_times", "_law_inverse", "_law_divided", "_law_rest", "_law_monic", "_law_common", "_law_slope", "_law_is_free", "_law_row_drawn", "_law_free_drawn", "_law_free_made", "_law_sheet_of", "_law_even_curve", "_law_root_row", "_law_round_rows", "_law_norm_of", "_law_scaled", "_law_product_pair", "_law_own_power", "_law_plain", "_law_near"]
def nms4 : List Str := ["_law_is_own", "_law_right"]
def nmsA : List Str := nms0 ++ nms1 ++ nms2 ++ nms3 ++ nms4
noncomputable abbrev topX (w : World) (os : OsState) : Option PySem.W.SharedT := endF (stepQ (denQ tabQ) Rw.prog w) 20000 Rw.prog w os
theorem run1 (w : World) : ∀ os : OsState, (topX w os).map (fun s => (looksF Rw.prog (PySem.W.boot_heap w.params) s.abs, seenQ qw nmsA (importedModules Rw.prog.main.body) (fun s => PySem.W.xlAt qw [] s && PySem.W.recOk Rw.toRowW.records s) s.abs)) = some (true, PySem.W.openGood qw nmsA) := by
  intro os
  kernel_rfl
theorem run2 (w : World) : ∀ os : OsState, (topX w os).map (fun s => obF (frX (getT s))) = some true := by
  intro os
  kernel_rfl
theorem run3 (w : World) : ∀ os : OsState, (topX w os).map (fun s => obD DFsA (frX (getT s))) = some (vaD DFsA) := by
  intro os
  kernel_rfl
theorem run4 (w : World) : ∀ os : OsState, (topX w os).map (fun s => obD DFsB (frX (getT s))) = some (vaD DFsB) := by
  intro os
  kernel_rfl
theorem runX (w : World) : RunEq Rw qw hookX obX 20000 nmsA w := by
  intro os
  have h1 := run1 w os
  have h2 := run2 w os
  have h3 := run3 w os
  have h4 := run4 w os
  unfold topX at h1 h2 h3 h4
  cases e : endF (stepQ (denQ tabQ) Rw.prog w) 20000 Rw.prog w os with
  | none =>
    rw [e] at h1
    cases h1
  | some s =>
    rw [e, Option.map_some] at h1 h2 h3 h4
    have e1 := Option.some.inj h1
    have e2 := Option.some.inj h2
    have e3 := Option.some.inj h3
    have e4 := Option.some.inj h4
    show (some s).map _ = _
    rw [Option.map_some]
    have a1 := congrArg Prod.fst e1
    have a2 := congrArg Prod.snd e1
    simp only at a1 a2
    rw [a1, a2]
    show some (true, PySem.W.openGood qw nmsA, (obF (frX (getT s)), obD DFsA (frX (getT s)), obD DFsB (frX (getT s)))) = some (true, PySem.W.openGood qw nmsA, valX)
    rw [e2, e3, e4]
    rfl
end DL

set_option maxHeartbeats 4000000
namespace DL
/-! ### what the text's functions compute, on rows of integers (plain Lean) -/
def trimI (r : List Int) : List Int := (r.reverse.dropWhile (· == 0)).reverse
def getI (r : List Int) (i : Nat) : Int := r[i]?.getD 0
theorem trim_nil : trimI [] = [] := rfl
theorem trim_snoc0 {r : List Int} : trimI (r ++ [0]) = trimI r := by unfold trimI; simp
theorem trim_snoc {r : List Int} {x : Int} (h : x ≠ 0) : trimI (r ++ [x]) = r ++ [x] := by unfold trimI; simp [h]
theorem take_succ_get {r : List Int} {m : Nat} (h : m < r.length) : r.take (m + 1) = r.take m ++ [getI r m] := by
  rw [List.take_add_one, List.getElem?_eq_getElem h]
  show _ = _ ++ [(r[m]?).getD 0]
  rw [List.getElem?_eq_getElem h]
  rfl
theorem trim_take {r : List Int} {m : Nat} (h : m < r.length) (h0 : getI r m = 0) : trimI (r.take (m + 1)) = trimI (r.take m) := by rw [take_succ_get h, h0, trim_snoc0]
theorem trim_stop {r : List Int} {m : Nat} (h : m < r.length) (h0 : getI r m ≠ 0) : trimI (r.take (m + 1)) = r.take (m + 1) := by rw [take_succ_get h, trim_snoc h0]
theorem trim_len (r : List Int) : (trimI r).length ≤ r.length := by
  unfold trimI
  rw [List.length_reverse]
  have := (List.dropWhile_sublist (l := r.reverse) (· == 0)).length_le
  rw [List.length_reverse] at this
  exact this
theorem trim_mem {r : List Int} {x : Int} (h : x ∈ trimI r) : x ∈ r := by
  unfold trimI at h
  rw [List.mem_reverse] at h
  exact List.mem_reverse.mp ((List.dropWhile_sublist _).subset h)
theorem trim_top (r : List Int) : (trimI r).getLastD 1 ≠ 0 := by
  unfold trimI
  cases h : r.reverse.dropWhile (· == 0) with
  | nil => simp
  | cons x l =>
    have := List.head?_dropWhile_not (· == 0) r.reverse
    rw [h] at this
    simp at this
    simp [this]
theorem trim_id {r : List Int} (h : r.getLastD 1 ≠ 0) : trimI r = r := by
  rcases List.eq_nil_or_concat r with rfl | ⟨l, x, rfl⟩
  · rfl
  · have hx : x ≠ 0 := by simpa using h
    have e : l.concat x = l ++ [x] := by simp
    rw [e, trim_snoc hx]
/-- lo, lo + c, .. -/
def rangeD (lo c : Int) (n : Nat) : List Int := (List.range n).map fun (i : Nat) => lo + (i : Int) * c
end DL
namespace DL
theorem mem_range1 {lo x : Int} {n : Nat} (h : x ∈ rangeD lo 1 n) : lo ≤ x ∧ x < lo + n := by
  unfold rangeD at h
  obtain ⟨i, hi, rfl⟩ := List.mem_map.mp h
  have := List.mem_range.mp hi
  omega
theorem mem_down {lo x : Int} {n : Nat} (h : x ∈ rangeD lo (-1) n) : lo - n < x ∧ x ≤ lo := by
  unfold rangeD at h
  obtain ⟨i, hi, rfl⟩ := List.mem_map.mp h
  have := List.mem_range.mp hi
  omega
def Pr (p : Int) : Prop := p = 3 ∨ p = 5 ∨ p = 7
theorem Pr.pos {p : Int} (h : Pr p) : 0 < p := by rcases h with rfl | rfl | rfl <;> decide
theorem Pr.le {p : Int} (h : Pr p) : p ≤ 7 := by rcases h with rfl | rfl | rfl <;> decide
theorem Pr.ge {p : Int} (h : Pr p) : 3 ≤ p := by rcases h with rfl | rfl | rfl <;> decide
/-- the numbers whose product with n is 1 -/
def invs (p n : Int) : List Int := (rangeD 1 1 (p - 1).toNat).filter fun o => decide (o * n % p = 1)
def invI (p n : Int) : Int := getI (invs p n) 0
theorem inv_ok {p n : Int} (hp : Pr p) (h0 : 0 < n) (h1 : n < p) : invs p n ≠ [] ∧ invI p n * n % p = 1 ∧ 0 < invI p n ∧ invI p n < p := by
  rcases hp with rfl | rfl | rfl
  · have : n = 1 ∨ n = 2 := by omega
    rcases this with rfl | rfl <;> decide
  · have : n = 1 ∨ n = 2 ∨ n = 3 ∨ n = 4 := by omega
    rcases this with rfl | rfl | rfl | rfl <;> decide
  · have : n = 1 ∨ n = 2 ∨ n = 3 ∨ n = 4 ∨ n = 5 ∨ n = 6 := by omega
    rcases this with rfl | rfl | rfl | rfl | rfl | rfl <;> decide
theorem small64 {i : Int} (h : -1000000 ≤ i) (h2 : i ≤ 1000000) : -(2 ^ 64) < i ∧ i < 2 ^ 64 := by
  have e : (2 : Int) ^ 64 = 18446744073709551616 := by decide
  rw [e]
  omega
end DL
namespace DL
def oppL (p : Int) (r : List Int) : List Int := r.map fun e => (p - e) % p
def numR (p : Int) (r : List Int) : Int := r.reverse.foldl (fun f e => f * p + e) 0
def addZ (p : Int) (lo sh : List Int) : List Int := ((lo.zip sh).map fun q => (q.1 + q.2) % p) ++ lo.drop sh.length
def sumL (p : Int) (a b : List Int) : List Int := if b.length ≤ a.length then addZ p a b else addZ p b a
/-- one row of a product, added -/
def rowAdd (f : List Int) (at_ : Nat) (x : Int) (b : List Int) : List Int := b.zipIdx.foldl (fun f q => f.set (at_ + q.2) (getI f (at_ + q.2) + x * q.1)) f
def prodR (a b : List Int) : List Int := a.zipIdx.foldl (fun f q => if q.1 = 0 then f else rowAdd f q.2 q.1 b) (List.replicate (a.length + b.length - 1) 0)
def prodL (p : Int) (a b : List Int) : List Int := (prodR a b).map fun e => e % p
theorem rowAdd_len (at_ : Nat) (x : Int) : ∀ (b : List (Int × Nat)) (f : List Int), (b.foldl (fun f q => f.set (at_ + q.2) (getI f (at_ + q.2) + x * q.1)) f).length = f.length
  | [], f => rfl
  | q :: b, f => by rw [List.foldl_cons, rowAdd_len at_ x b, List.length_set]
theorem prodR_len (b : List Int) : ∀ (a : List (Int × Nat)) (f : List Int), (a.foldl (fun f q => if q.1 = 0 then f else rowAdd f q.2 q.1 b) f).length = f.length
  | [], f => rfl
  | q :: a, f => by
    rw [List.foldl_cons, prodR_len b a]
    split
    · rfl
    · exact rowAdd_len _ _ _ _
end DL
namespace DL
/-- x times b taken off, at a place -/
def subRow (p : Int) (f : List Int) (at_ : Nat) (x : Int) (b : List Int) : List Int := b.zipIdx.foldl (fun f q => f.set (at_ + q.2) ((getI f (at_ + q.2) - x * q.1) % p)) f
theorem subRow_len (p : Int) (at_ : Nat) (x : Int) : ∀ (b : List (Int × Nat)) (f : List Int), (b.foldl (fun f q => f.set (at_ + q.2) ((getI f (at_ + q.2) - x * q.1) % p)) f).length = f.length
  | [], f => rfl
  | q :: b, f => by rw [List.foldl_cons, subRow_len p at_ x b, List.length_set]
/-- a step of a division: (rest, found) -/
def divStep (p inv : Int) (b : List Int) (s : List Int × List Int) (at_ : Int) : List Int × List Int :=
  let x := getI s.1 (at_.toNat + b.length - 1) * inv % p
  (if x = 0 then s.1 else subRow p s.1 at_.toNat x b, s.2.set at_.toNat x)
def quoN (a b : List Int) : Nat := a.length + 1 - b.length
def divR (p : Int) (a b : List Int) : List Int × List Int := (rangeD ((quoN a b : Int) - 1) (-1) (quoN a b)).foldl (divStep p (invI p (b.getLastD 0)) b) (a, List.replicate (quoN a b) 0)
theorem divStep_len (p inv : Int) (b : List Int) (s : List Int × List Int) (i : Int) : (divStep p inv b s i).1.length = s.1.length ∧ (divStep p inv b s i).2.length = s.2.length := by
  unfold divStep
  constructor
  · show (if _ then _ else _ : List Int).length = _
    split
    · rfl
    · exact subRow_len _ _ _ _ _
  · exact List.length_set ..
theorem divFold_len (p inv : Int) (b : List Int) : ∀ (l : List Int) (s : List Int × List Int), (l.foldl (divStep p inv b) s).1.length = s.1.length ∧ (l.foldl (divStep p inv b) s).2.length = s.2.length
  | [], s => ⟨rfl, rfl⟩
  | i :: l, s => by
    rw [List.foldl_cons]
    have h1 := divFold_len p inv b l (divStep p inv b s i)
    have h2 := divStep_len p inv b s i
    exact ⟨h1.1.trans h2.1, h1.2.trans h2.2⟩
end DL
namespace DL
/-! ### residues -/
def Res (p : Int) (r : List Int) : Prop := ∀ x ∈ r, 0 ≤ x ∧ x < p
theorem mod_res {p : Int} (h : 0 < p) (x : Int) : 0 ≤ x % p ∧ x % p < p := ⟨Int.emod_nonneg _ (by omega), Int.emod_lt_of_pos _ h⟩
theorem res_map {α : Type} {p : Int} (h : 0 < p) {l : List α} {f : α → Int} : Res p (l.map fun a => f a % p) := fun x hx => by
  obtain ⟨a, _, rfl⟩ := List.mem_map.mp hx
  exact mod_res h _
theorem res_oppL {p : Int} (h : 0 < p) {r : List Int} : Res p (oppL p r) := res_map h
theorem res_addZ {p : Int} (h : 0 < p) {a b : List Int} (ha : Res p a) : Res p (addZ p a b) := fun x hx => by
  rcases List.mem_append.mp hx with q | q
  · exact res_map h x q
  · exact ha x (List.mem_of_mem_drop q)
theorem res_sumL {p : Int} (h : 0 < p) {a b : List Int} (ha : Res p a) (hb : Res p b) : Res p (sumL p a b) := by
  unfold sumL
  split
  · exact res_addZ h ha
  · exact res_addZ h hb
theorem len_addZ {p : Int} {a b : List Int} (h : b.length ≤ a.length) : (addZ p a b).length = a.length := by
  unfold addZ
  rw [List.length_append, List.length_map, List.length_zip, List.length_drop]
  omega
theorem len_sumL {p : Int} {a b : List Int} : (sumL p a b).length = max a.length b.length := by
  unfold sumL
  split
  · rw [len_addZ (by assumption)]
    omega
  · rw [len_addZ (by omega)]
    omega
theorem res_prodL {p : Int} (h : 0 < p) {a b : List Int} : Res p (prodL p a b) := res_map h
theorem len_prodL {p : Int} {a b : List Int} : (prodL p a b).length = a.length + b.length - 1 := by
  unfold prodL prodR
  rw [List.length_map, prodR_len, List.length_replicate]
theorem res_set {p : Int} {r : List Int} {i : Nat} {x : Int} (h : Res p r) (hx : 0 ≤ x ∧ x < p) : Res p (r.set i x) := fun y hy => by
  rcases List.mem_or_eq_of_mem_set hy with q | q
  · exact h y q
  · rw [q]
    exact hx
theorem res_subRow {p : Int} (hp : 0 < p) (at_ : Nat) (x : Int) : ∀ (b : List (Int × Nat)) (f : List Int), Res p f → Res p (b.foldl (fun f q => f.set (at_ + q.2) ((getI f (at_ + q.2) - x * q.1) % p)) f)
  | [], f, h => h
  | q :: b, f, h => by
    rw [List.foldl_cons]
    exact res_subRow hp at_ x b _ (res_set h (mod_res hp _))
theorem res_divStep {p inv : Int} (hp : 0 < p) {b : List Int} {s : List Int × List Int} {i : Int} (h1 : Res p s.1) (h2 : Res p s.2) : Res p (divStep p inv b s i).1 ∧ Res p (divStep p inv b s i).2 := by
  unfold divStep
  constructor
  · show Res p (if _ then _ else _)
    split
    · exact h1
    · exact res_subRow hp _ _ _ _ h1
  · exact res_set h2 (mod_res hp _)
theorem res_divFold {p inv : Int} (hp : 0 < p) {b : List Int} : ∀ (l : List Int) (s : List Int × List Int), Res p s.1 → Res p s.2 → Res p (l.foldl (divStep p inv b) s).1 ∧ Res p (l.foldl (divStep p inv b) s).2
  | [], s, h1, h2 => ⟨h1, h2⟩
  | i :: l, s, h1, h2 => by
    rw [List.foldl_cons]
    obtain ⟨a, b⟩ := res_divStep (inv := inv) (i := i) hp h1 h2
    exact res_divFold hp l _ a b
theorem res_zeros {p : Int} (hp : 0 < p) {n : Nat} : Res p (List.replicate n 0) := fun x hx => by
  rw [List.eq_of_mem_replicate hx]
  omega
theorem res_divR {p : Int} (hp : 0 < p) {a b : List Int} (ha : Res p a) : Res p (divR p a b).1 ∧ Res p (divR p a b).2 := res_divFold hp _ _ ha (res_zeros hp)
theorem len_divR {p : Int} {a b : List Int} : (divR p a b).1.length = a.length ∧ (divR p a b).2.length = quoN a b := by
  have := divFold_len p (invI p (b.getLastD 0)) b (rangeD ((quoN a b : Int) - 1) (-1) (quoN a b)) (a, List.replicate (quoN a b) 0)
  exact ⟨this.1, this.2.trans (List.length_replicate ..)⟩
theorem res_take {p : Int} {r : List Int} {n : Nat} (h : Res p r) : Res p (r.take n) := fun x hx => h x (List.mem_of_mem_take hx)
theorem res_trim {p : Int} {r : List Int} (h : Res p r) : Res p (trimI r) := fun x hx => h x (trim_mem hx)
/-! ### the operations on rows -/
def addP (p : Int) (a b : List Int) : List Int := trimI (sumL p a b)
def negP (p : Int) (a : List Int) : List Int := trimI (oppL p a)
def subP (p : Int) (a b : List Int) : List Int := trimI (sumL p a (oppL p b))
def mulP (p : Int) (a b : List Int) : List Int := trimI (prodL p a b)
def quoP (p : Int) (a b : List Int) : List Int := trimI (divR p a b).2
def remP (p : Int) (a b : List Int) : List Int := trimI ((divR p a b).1.take (b.length - 1))
def sclP (p : Int) (c : Int) (a : List Int) : List Int := trimI (a.map fun e => c * e % p)
def dervP (p : Int) (a : List Int) : List Int := trimI ((a.zipIdx.map fun q => (q.2 : Int) * q.1 % p).drop 1)
end DL
namespace DL
def evalP (p : Int) (r : List Int) (x : Int) : Int := r.reverse.foldl (fun f e => (f * x + e) % p) 0
theorem evalP_res {p : Int} (hp : 0 < p) (r : List Int) (x : Int) : 0 ≤ evalP p r x ∧ evalP p r x < p := by
  unfold evalP
  have key : ∀ (l : List Int) (f : Int), (0 ≤ f ∧ f < p) → 0 ≤ l.foldl (fun f e => (f * x + e) % p) f ∧ l.foldl (fun f e => (f * x + e) % p) f < p := fun l => by
    induction l with
    | nil => exact fun f h => h
    | cons e l ih => exact fun f h => ih _ (mod_res hp _)
  exact key _ 0 ⟨Int.le_refl _, hp⟩
def monP (p : Int) (r : List Int) : List Int := if r.getLastD 0 = 1 then r else sclP p (invI p (r.getLastD 0)) r
end DL

/-! A layer of data over the hand layer: values are described by data, the heap is hidden. -/
namespace DL
open PySem PySem.Spec PyProof.Rows L2

/-! ### data -/
inductive Dt where
  | non | bl (b : Bool) | int (i : Int) | str (s : Str)
  | tup (ds : List Dt) | lst (ds : List Dt)
  | poly (p : Int) (r : List Int)
  | ent (r : List Int)
  | curve (p : Int) (f : List Int)
  | fn (p : Int) (f a b c : List Int)
  | round (p : Int) (rows : List (List Int × List Int × List Int)) (last len : Int)
  | steps (p : Int) (f P Q S : List Int)
  | dice
  | val (v : V)
  | scr (ns : List Int)

/-- all that is in H stands in H' as it is -/
def Ex (H H' : Hp) : Prop := ∀ a o, H a = some o → H' a = some o
theorem Ex.rfl {H : Hp} : Ex H H := fun _ _ h => h
theorem Ex.trans {H H1 H2 : Hp} (a : Ex H H1) (b : Ex H1 H2) : Ex H H2 := fun x o h => b x o (a x o h)
theorem Ex.new {H : Hp} {p : Addr} {o : HO} (h : H p = none) : Ex H (upd H p o) := fun a u e => by
  rw [upd_ne (ne_of_none e h)]
  exact e
theorem Ex.back {H H' : Hp} {p : Addr} (e : Ex H H') (h : H' p = none) : H p = none := by
  cases h1 : H p with
  | none => rfl
  | some o =>
    rw [e p o h1] at h
    cases h
theorem Ex.rd {H H' : Hp} {a : Addr} {u : HO} (e : Ex H H') (h : Rd H a u) : Rd H' a u := by
  rcases h with h | ⟨o, h⟩
  · exact Or.inl (e a _ h)
  · exact Or.inr ⟨o, e a _ h⟩
theorem Ex.l {K : PySem.W.Frag} {H H' : Hp} {a : Addr} {xs : List V} (e : Ex H H') (h : SqL K H a xs) : SqL K H' a xs := by
  rcases h with h | h
  · exact Or.inl (e.rd h)
  · exact Or.inr h
theorem Ex.t {K : PySem.W.Frag} {H H' : Hp} {a : Addr} {xs : List V} (e : Ex H H') (h : SqT K H a xs) : SqT K H' a xs := by
  rcases h with h | h
  · exact Or.inl (e.rd h)
  · exact Or.inr h

/-- what is to be seen of the heap: without the addresses M -/
def hid (M : List Addr) (H : Hp) : Hp := fun a => if a ∈ M then none else H a
theorem hid_ex {M : List Addr} {H : Hp} : Ex (hid M H) H := fun a o h => by
  unfold hid at h
  split at h
  · cases h
  · exact h
theorem hid_at {M : List Addr} {H : Hp} {a : Addr} (h : a ∉ M) : hid M H a = H a := by
  unfold hid
  rw [if_neg h]
theorem hid_out {M : List Addr} {H : Hp} {a : Addr} {o : HO} (h : hid M H a = some o) : a ∉ M ∧ H a = some o := by
  unfold hid at h
  split at h
  · cases h
  · exact ⟨by assumption, h⟩
theorem hid_mono {M : List Addr} {H H' : Hp} (e : Ex H H') : Ex (hid M H) (hid M H') := fun a o h => by
  obtain ⟨h1, h2⟩ := hid_out h
  rw [hid_at h1]
  exact e a o h2
theorem hid_sub {M M' : List Addr} {H : Hp} (e : ∀ a ∈ M', a ∈ M) : Ex (hid M H) (hid M' H) := fun a o h => by
  obtain ⟨h1, h2⟩ := hid_out h
  rw [hid_at fun z => h1 (e a z)]
  exact h2
theorem hid_upd {M : List Addr} {H : Hp} {l : Addr} {o : HO} (h : l ∈ M) : hid M (upd H l o) = hid M H := by
  funext a
  unfold hid
  split
  · rfl
  · rename_i h1
    rw [upd_ne fun z => h1 (by rw [z]; exact h)]

/-- a list of predicates on the fields of an object -/
abbrev PV := V → Hp → Prop
def eqV (x : V) : PV := fun v _ => v = x
def anyV : PV := fun _ _ => True
/-- an object with slots, of the class at C, its slots told -/
def objAt (C : Addr) (Ps : List PV) : PV := fun v H => ∃ a dx vals, v = .ref a ∧ H a = some (SlX.SlO a C dx vals) ∧ H dx = some (.xd []) ∧ ∀ (j : Nat) (Q : PV), Ps[j]? = some Q → ∃ x, vals[j]? = some (some x) ∧ Q x H

mutual
/-- data as a value: the objects by ob -/
def repG (ob : Dt → PV) (K : PySem.W.Frag) : Dt → PV
  | .non => fun v _ => v = .non
  | .bl b => fun v _ => v = .bl b
  | .int i => fun v _ => v = .int i
  | .str s => fun v _ => v = .str s
  | .val x => fun v _ => v = x
  | .tup ds => fun v H => ∃ a xs, v = .ref a ∧ SqT K H a xs ∧ repsG ob K ds xs H
  | .lst ds => fun v H => ∃ a xs, v = .ref a ∧ H a = some (.lst xs) ∧ repsG ob K ds xs H
  | .scr ns => fun v H => ∃ a, v = .ref a ∧ SqL K H a (ns.map V.int)
  | .poly p r => ob (.poly p r)
  | .ent r => ob (.ent r)
  | .curve p f => ob (.curve p f)
  | .fn p f a b c => ob (.fn p f a b c)
  | .round p rows last len => ob (.round p rows last len)
  | .steps p f P Q S => ob (.steps p f P Q S)
  | .dice => ob .dice
def repsG (ob : Dt → PV) (K : PySem.W.Frag) : List Dt → List V → Hp → Prop
  | [] => fun xs _ => xs = []
  | d :: ds => fun xs H => ∃ x ys, xs = x :: ys ∧ repG ob K d x H ∧ repsG ob K ds ys H
end

/-- a row of residues of one of three primes, its last one not 0 -/
structure Wf (p : Int) (r : List Int) : Prop where
  pr : p = 3 ∨ p = 5 ∨ p = 7
  res : ∀ x ∈ r, 0 ≤ x ∧ x < p
  top : r.getLastD 1 ≠ 0
def rep0 (K : PySem.W.Frag) : Dt → PV := repG (fun _ _ _ => False) K
/-- a row as data -/
abbrev rowD (r : List Int) : List Dt := r.map Dt.int
def isPoly (K : PySem.W.Frag) (p : Int) (r : List Int) : PV := fun v H => Wf p r ∧ ∃ (n : Int) (t : Str), t.length ≤ 16 * r.length + 16 ∧
  objAt (He.ga K "Poly") [rep0 K (.tup (rowD r)), eqV (.int (r.getLastD 0)), eqV (.int n), eqV (.int p), eqV (.str t)] v H
def isEnt (K : PySem.W.Frag) (r : List Int) : PV := objAt (He.ga K "Entries") [rep0 K (.tup (rowD r))]
/-- the residues whose square is a residue -/
def rootsOf (p c : Int) : List Int := ((List.range p.toNat).map Int.ofNat).filter fun x => decide (x * x % p = c)
def rimsD (p : Int) (f : List Int) : Dt := .tup ((rootsOf p (f.getLastD 0)).map fun r => .tup [.str "rim", .int r])
def isCurve (K : PySem.W.Frag) (p : Int) (f : List Int) : PV := fun v H => 2 ≤ f.length ∧ f.length ≤ 9 ∧ ∃ (kd : Str) (t : Str), t.length ≤ 1000 ∧ (kd = "two" ↔ f.length % 2 = 1 ∧ rootsOf p (f.getLastD 0) ≠ []) ∧
  objAt (He.ga K "Curve") [isPoly K p f, eqV (.int (((f.length : Int) - 2) / 2)), eqV (.str kd), anyV, eqV (.int p), (fun v H => kd = "two" → rep0 K (rimsD p f) v H), eqV (.str t)] v H
def isFn (K : PySem.W.Frag) (p : Int) (f a b c : List Int) : PV := objAt (He.ga K "Function") [isPoly K p a, isPoly K p b, isPoly K p c, isCurve K p f, anyV, anyV, anyV, anyV, anyV]
def ob1 (K : PySem.W.Frag) : Dt → PV
  | .poly p r => isPoly K p r
  | _ => fun _ _ => False
def rowsD (p : Int) (rows : List (List Int × List Int × List Int)) : List Dt := rows.map fun q => .tup [.poly p q.1, .poly p q.2.1, .poly p q.2.2]
def isRound (K : PySem.W.Frag) (p : Int) (rows : List (List Int × List Int × List Int)) (last len : Int) : PV := objAt (He.ga K "Round") [eqV (.int last), eqV (.int len), repG (ob1 K) K (.lst (rowsD p rows))]
def isSteps (K : PySem.W.Frag) (p : Int) (f P Q S : List Int) : PV := objAt (He.ga K "Steps") [isPoly K p f, isPoly K p P, isPoly K p Q, isPoly K p S]
/-- the dice: a list of three integers from 0 on, whichever -/
def DiceP (l : Addr) (h : Heap) : Prop := ∃ (a b c : Int) (t u z : Tok) (n : Nat), 0 ≤ a ∧ 0 ≤ b ∧ 0 ≤ c ∧ h.get? l = some { cls := .type "list", data := .seq #[.int a t, .int b u, .int c z] n }
def DiceO (l : Addr) : HO := .ext (DiceP l)
def isDice : PV := fun v H => ∃ l, v = .ref l ∧ H l = some (DiceO l)
def ob2 (K : PySem.W.Frag) : Dt → PV
  | .poly p r => isPoly K p r
  | .ent r => isEnt K r
  | .curve p f => isCurve K p f
  | .fn p f a b c => isFn K p f a b c
  | .round p rows last len => isRound K p rows last len
  | .steps p f P Q S => isSteps K p f P Q S
  | .dice => isDice
  | _ => fun _ _ => False
def rep (K : PySem.W.Frag) : Dt → PV := repG (ob2 K) K
def reps (K : PySem.W.Frag) : List Dt → List V → Hp → Prop := repsG (ob2 K) K

/-! ### what stays -/
def Mon (P : PV) : Prop := ∀ v H H', Ex H H' → P v H → P v H'
theorem mon_eq {x : V} : Mon (eqV x) := fun _ _ _ _ h => h
theorem mon_any : Mon anyV := fun _ _ _ _ h => h
theorem mon_obj {C : Addr} {Ps : List PV} (h : ∀ Q ∈ Ps, Mon Q) : Mon (objAt C Ps) := fun v H H' e q => by
  obtain ⟨a, dx, vals, rfl, h1, h2, h3⟩ := q
  refine ⟨a, dx, vals, rfl, e _ _ h1, e _ _ h2, fun j Q hj => ?_⟩
  obtain ⟨x, hx, hq⟩ := h3 j Q hj
  exact ⟨x, hx, h Q (List.mem_of_getElem? hj) _ _ _ e hq⟩
mutual
theorem mon_repG {ob : Dt → PV} {K : PySem.W.Frag} (ho : ∀ d, Mon (ob d)) : ∀ d, Mon (repG ob K d)
  | .non => fun _ _ _ _ h => by simpa only [repG] using h
  | .bl b => fun _ _ _ _ h => by simpa only [repG] using h
  | .int i => fun _ _ _ _ h => by simpa only [repG] using h
  | .str s => fun _ _ _ _ h => by simpa only [repG] using h
  | .val x => fun _ _ _ _ h => by simpa only [repG] using h
  | .tup ds => fun v H H' e h => by
    simp only [repG] at h ⊢
    obtain ⟨a, xs, h1, h2, h3⟩ := h
    exact ⟨a, xs, h1, e.t h2, mon_repsG ho ds xs H H' e h3⟩
  | .lst ds => fun v H H' e h => by
    simp only [repG] at h ⊢
    obtain ⟨a, xs, h1, h2, h3⟩ := h
    exact ⟨a, xs, h1, e _ _ h2, mon_repsG ho ds xs H H' e h3⟩
  | .scr ns => fun v H H' e h => by
    simp only [repG] at h ⊢
    obtain ⟨a, h1, h2⟩ := h
    exact ⟨a, h1, e.l h2⟩
  | .poly p r => fun v H H' e h => by
    simp only [repG] at h ⊢
    exact ho _ v H H' e h
  | .ent r => fun v H H' e h => by
    simp only [repG] at h ⊢
    exact ho _ v H H' e h
  | .curve p f => fun v H H' e h => by
    simp only [repG] at h ⊢
    exact ho _ v H H' e h
  | .fn p f a b c => fun v H H' e h => by
    simp only [repG] at h ⊢
    exact ho _ v H H' e h
  | .steps p f P Q S => fun v H H' e h => by
    simp only [repG] at h ⊢
    exact ho _ v H H' e h
  | .round p rows last len => fun v H H' e h => by
    simp only [repG] at h ⊢
    exact ho _ v H H' e h
  | .dice => fun v H H' e h => by
    simp only [repG] at h ⊢
    exact ho _ v H H' e h
theorem mon_repsG {ob : Dt → PV} {K : PySem.W.Frag} (ho : ∀ d, Mon (ob d)) : ∀ ds xs H H', Ex H H' → repsG ob K ds xs H → repsG ob K ds xs H'
  | [], xs, H, H', e, h => by simpa only [repsG] using h
  | d :: ds, xs, H, H', e, h => by
    simp only [repsG] at h ⊢
    obtain ⟨x, ys, h1, h2, h3⟩ := h
    exact ⟨x, ys, h1, mon_repG ho d x H H' e h2, mon_repsG ho ds ys H H' e h3⟩
end
theorem mon_rep0 {K : PySem.W.Frag} (d : Dt) : Mon (rep0 K d) := mon_repG (fun _ _ _ _ _ h => h) d
theorem mon_poly {K : PySem.W.Frag} {p : Int} {r : List Int} : Mon (isPoly K p r) := fun v H H' e h => by
  obtain ⟨w, n, t, ht, h⟩ := h
  refine ⟨w, n, t, ht, mon_obj (fun Q hQ => ?_) v H H' e h⟩
  simp only [List.mem_cons, List.not_mem_nil, or_false] at hQ
  rcases hQ with rfl | rfl | rfl | rfl | rfl
  · exact mon_rep0 _
  all_goals exact mon_eq
theorem mon_ent {K : PySem.W.Frag} {r : List Int} : Mon (isEnt K r) := mon_obj fun Q hQ => by
  simp only [List.mem_cons, List.not_mem_nil, or_false] at hQ
  subst hQ
  exact mon_rep0 _
theorem mon_curve {K : PySem.W.Frag} {p : Int} {f : List Int} : Mon (isCurve K p f) := fun v H H' e h => by
  obtain ⟨h1, h2, kd, t, ht, hk, h⟩ := h
  refine ⟨h1, h2, kd, t, ht, hk, mon_obj (fun Q hQ => ?_) v H H' e h⟩
  simp only [List.mem_cons, List.not_mem_nil, or_false] at hQ
  rcases hQ with rfl | rfl | rfl | rfl | rfl | rfl | rfl
  · exact mon_poly
  · exact mon_eq
  · exact mon_eq
  · exact mon_any
  · exact mon_eq
  · exact fun v H H' e q z => mon_rep0 _ v H H' e (q z)
  · exact mon_eq
theorem mon_fn {K : PySem.W.Frag} {p : Int} {f a b c : List Int} : Mon (isFn K p f a b c) := mon_obj fun Q hQ => by
  simp only [List.mem_cons, List.not_mem_nil, or_false] at hQ
  rcases hQ with rfl | rfl | rfl | rfl | rfl | rfl | rfl | rfl | rfl
  · exact mon_poly
  · exact mon_poly
  · exact mon_poly
  · exact mon_curve
  all_goals exact mon_any
theorem mon_ob1 {K : PySem.W.Frag} (d : Dt) : Mon (ob1 K d) := by
  cases d with
  | poly p r => exact mon_poly
  | _ => exact fun _ _ _ _ h => h
theorem mon_round {K : PySem.W.Frag} {p : Int} {rows : List (List Int × List Int × List Int)} {last len : Int} : Mon (isRound K p rows last len) := mon_obj fun Q hQ => by
  simp only [List.mem_cons, List.not_mem_nil, or_false] at hQ
  rcases hQ with rfl | rfl | rfl
  · exact mon_eq
  · exact mon_eq
  · exact mon_repG mon_ob1 _
theorem mon_steps {K : PySem.W.Frag} {p : Int} {f P Q S : List Int} : Mon (isSteps K p f P Q S) := mon_obj fun R hR => by
  simp only [List.mem_cons, List.not_mem_nil, or_false] at hR
  rcases hR with rfl | rfl | rfl | rfl
  all_goals exact mon_poly
theorem mon_dice : Mon isDice := fun v H H' e h => by
  obtain ⟨l, h1, h2⟩ := h
  exact ⟨l, h1, e _ _ h2⟩
theorem mon_ob2 {K : PySem.W.Frag} (d : Dt) : Mon (ob2 K d) := by
  cases d with
  | poly p r => exact mon_poly
  | ent r => exact mon_ent
  | curve p f => exact mon_curve
  | fn p f a b c => exact mon_fn
  | round p rows last len => exact mon_round
  | steps p f P Q S => exact mon_steps
  | dice => exact mon_dice
  | _ => exact fun _ _ _ _ h => h
theorem rep_mono {K : PySem.W.Frag} {d : Dt} {v : V} {H H' : Hp} (e : Ex H H') (h : rep K d v H) : rep K d v H' := mon_repG mon_ob2 d v H H' e h
theorem reps_mono {K : PySem.W.Frag} {ds : List Dt} {xs : List V} {H H' : Hp} (e : Ex H H') (h : reps K ds xs H) : reps K ds xs H' := mon_repsG mon_ob2 ds xs H H' e h

/-! ### what data says of a value -/
section
variable {K : PySem.W.Frag} {v : V} {H : Hp}
theorem rep_non : rep K .non v H ↔ v = .non := by unfold rep; simp only [repG]
theorem rep_bl {b : Bool} : rep K (.bl b) v H ↔ v = .bl b := by unfold rep; simp only [repG]
theorem rep_int {i : Int} : rep K (.int i) v H ↔ v = .int i := by unfold rep; simp only [repG]
theorem rep_str {s : Str} : rep K (.str s) v H ↔ v = .str s := by unfold rep; simp only [repG]
theorem rep_val {x : V} : rep K (.val x) v H ↔ v = x := by unfold rep; simp only [repG]
theorem rep_tup {ds : List Dt} : rep K (.tup ds) v H ↔ ∃ a xs, v = .ref a ∧ SqT K H a xs ∧ reps K ds xs H := by unfold rep reps; simp only [repG]
theorem rep_lst {ds : List Dt} : rep K (.lst ds) v H ↔ ∃ a xs, v = .ref a ∧ H a = some (.lst xs) ∧ reps K ds xs H := by unfold rep reps; simp only [repG]
theorem rep_scr {ns : List Int} : rep K (.scr ns) v H ↔ ∃ a, v = .ref a ∧ SqL K H a (ns.map V.int) := by unfold rep; simp only [repG]
theorem rep_poly {p : Int} {r : List Int} : rep K (.poly p r) v H ↔ isPoly K p r v H := by unfold rep; simp only [repG, ob2]
theorem rep_ent {r : List Int} : rep K (.ent r) v H ↔ isEnt K r v H := by unfold rep; simp only [repG, ob2]
theorem rep_curve {p : Int} {f : List Int} : rep K (.curve p f) v H ↔ isCurve K p f v H := by unfold rep; simp only [repG, ob2]
theorem rep_fn {p : Int} {f a b c : List Int} : rep K (.fn p f a b c) v H ↔ isFn K p f a b c v H := by unfold rep; simp only [repG, ob2]
theorem rep_round {p : Int} {rows : List (List Int × List Int × List Int)} {last len : Int} : rep K (.round p rows last len) v H ↔ isRound K p rows last len v H := by unfold rep; simp only [repG, ob2]
theorem rep_steps {p : Int} {f P Q S : List Int} : rep K (.steps p f P Q S) v H ↔ isSteps K p f P Q S v H := by unfold rep; simp only [repG, ob2]
theorem rep_dice : rep K .dice v H ↔ isDice v H := by unfold rep; simp only [repG, ob2]
theorem reps_nil {xs : List V} : reps K [] xs H ↔ xs = [] := by unfold reps; simp only [repsG]
theorem reps_cons {d : Dt} {ds : List Dt} {xs : List V} : reps K (d :: ds) xs H ↔ ∃ x ys, xs = x :: ys ∧ rep K d x H ∧ reps K ds ys H := by unfold rep reps; simp only [repsG]
theorem reps_mk {d : Dt} {ds : List Dt} {x : V} {ys : List V} (h : rep K d x H) (h2 : reps K ds ys H) : reps K (d :: ds) (x :: ys) H := reps_cons.mpr ⟨x, ys, rfl, h, h2⟩
theorem reps_len : ∀ {ds : List Dt} {xs : List V}, reps K ds xs H → ds.length = xs.length
  | [], xs, h => by rw [reps_nil.mp h]; rfl
  | d :: ds, xs, h => by
    obtain ⟨x, ys, rfl, _, h3⟩ := reps_cons.mp h
    simp [reps_len h3]
theorem reps_get : ∀ {ds : List Dt} {xs : List V} {i : Nat} {d : Dt}, reps K ds xs H → ds[i]? = some d → ∃ x, xs[i]? = some x ∧ rep K d x H
  | [], xs, i, d, h, e => by simp at e
  | d0 :: ds, xs, i, d, h, e => by
    obtain ⟨x, ys, rfl, h2, h3⟩ := reps_cons.mp h
    cases i with
    | zero =>
      simp at e
      subst e
      exact ⟨x, rfl, h2⟩
    | succ i =>
      obtain ⟨z, hz, h4⟩ := reps_get h3 (by simpa using e)
      exact ⟨z, by simpa using hz, h4⟩
theorem reps_got : ∀ {ds : List Dt} {xs : List V} {i : Nat} {x : V}, reps K ds xs H → xs[i]? = some x → ∃ d, ds[i]? = some d ∧ rep K d x H := fun {ds xs i x} h e => by
  have hl := reps_len h
  have hi : i < ds.length := by
    rw [hl]
    exact (List.getElem?_eq_some_iff.mp e).1
  obtain ⟨y, hy, hr⟩ := reps_get h (List.getElem?_eq_getElem hi)
  rw [e] at hy
  cases hy
  exact ⟨_, List.getElem?_eq_getElem hi, hr⟩
theorem reps_set {y : V} {d : Dt} (r : rep K d y H) : ∀ {ds : List Dt} {xs : List V} (i : Nat), reps K ds xs H → reps K (ds.set i d) (xs.set i y) H
  | [], xs, i, h => by
    rw [reps_nil.mp h]
    exact reps_nil.mpr rfl
  | d0 :: ds, xs, 0, h => by
    obtain ⟨x, ys, rfl, h2, h3⟩ := reps_cons.mp h
    exact reps_mk r h3
  | d0 :: ds, xs, i + 1, h => by
    obtain ⟨x, ys, rfl, h2, h3⟩ := reps_cons.mp h
    exact reps_mk h2 (reps_set r i h3)
theorem reps_app : ∀ {ds es : List Dt} {xs ys : List V}, reps K ds xs H → reps K es ys H → reps K (ds ++ es) (xs ++ ys) H
  | [], es, xs, ys, h, h' => by
    rw [reps_nil.mp h]
    exact h'
  | d :: ds, es, xs, ys, h, h' => by
    obtain ⟨x, zs, rfl, h2, h3⟩ := reps_cons.mp h
    exact reps_mk h2 (reps_app h3 h')
theorem reps_take : ∀ {ds : List Dt} {xs : List V} (n : Nat), reps K ds xs H → reps K (ds.take n) (xs.take n) H
  | ds, xs, 0, _ => by simpa using reps_nil.mpr rfl
  | [], xs, n + 1, h => by
    rw [reps_nil.mp h]
    exact reps_nil.mpr rfl
  | d :: ds, xs, n + 1, h => by
    obtain ⟨x, zs, rfl, h2, h3⟩ := reps_cons.mp h
    exact reps_mk h2 (reps_take n h3)
theorem reps_drop : ∀ {ds : List Dt} {xs : List V} (n : Nat), reps K ds xs H → reps K (ds.drop n) (xs.drop n) H
  | ds, xs, 0, h => h
  | [], xs, n + 1, h => by
    rw [reps_nil.mp h]
    exact reps_nil.mpr rfl
  | d :: ds, xs, n + 1, h => by
    obtain ⟨x, zs, rfl, h2, h3⟩ := reps_cons.mp h
    exact reps_drop n h3
theorem reps_rev : ∀ {ds : List Dt} {xs : List V}, reps K ds xs H → reps K ds.reverse xs.reverse H
  | [], xs, h => by
    rw [reps_nil.mp h]
    exact reps_nil.mpr rfl
  | d :: ds, xs, h => by
    obtain ⟨x, zs, rfl, h2, h3⟩ := reps_cons.mp h
    rw [List.reverse_cons, List.reverse_cons]
    exact reps_app (reps_rev h3) (reps_mk h2 (reps_nil.mpr rfl))
theorem reps_int : ∀ {r : List Int} {xs : List V}, reps K (rowD r) xs H ↔ xs = r.map V.int
  | [], xs => by
    show reps K [] xs H ↔ _
    rw [reps_nil]
    rfl
  | i :: r, xs => by
    show reps K (.int i :: rowD r) xs H ↔ _
    rw [reps_cons]
    constructor
    · rintro ⟨x, ys, rfl, h1, h2⟩
      rw [rep_int.mp h1, reps_int.mp h2]
      rfl
    · intro h
      exact ⟨.int i, r.map V.int, h, rep_int.mpr rfl, reps_int.mpr rfl⟩
end
end DL

namespace DL
open PySem PySem.Spec PyProof.Rows L2

/-! ### the names by slots: nothing known; data; a list that is changed; an object in the making -/
inductive Sl where
  | no | im (d : Dt) | mu (ds : List Dt) | ob (C : Addr × Addr × Addr) (fs : List (Option Dt))

def SgI (K : PySem.W.Frag) (M : List Addr) (δ : List Sl) (σ : L2.St) (H : Hp) : Prop := ∀ (i : Nat) (d : Dt), δ[i]? = some (Sl.im d) → ∃ v, σ[i]? = some (some v) ∧ rep K d v (hid M H)
def SgM (K : PySem.W.Frag) (M0 M : List Addr) (H0 : Hp) (δ : List Sl) (σ : L2.St) (H : Hp) : Prop := ∀ (i : Nat) (ds : List Dt), δ[i]? = some (Sl.mu ds) →
  ∃ (l : Addr) (xs : List V), l ∈ M ∧ l ∉ M0 ∧ H0 l = none ∧ σ[i]? = some (some (V.ref l)) ∧ H l = some (.lst xs) ∧ reps K ds xs (hid M H)
/-- the object at a, known by its address: C = (its class, a, dx) -/
def SltC (H : Hp) (a : Addr) (C : Addr × Addr × Addr) (dx : Addr) (vals : List (Option V)) : Prop := (a = C.2.1 ∧ dx = C.2.2) ∧ SlX.Slt H a C.1 dx vals
def SgO (K : PySem.W.Frag) (M0 M : List Addr) (H0 : Hp) (δ : List Sl) (σ : L2.St) (H : Hp) : Prop := ∀ (i : Nat) (C : Addr × Addr × Addr) (fs : List (Option Dt)), δ[i]? = some (Sl.ob C fs) →
  ∃ (a dx : Addr) (vals : List (Option V)), a ∈ M ∧ dx ∈ M ∧ a ∉ M0 ∧ dx ∉ M0 ∧ H0 a = none ∧ H0 dx = none ∧ dx ≠ a ∧ σ[i]? = some (some (V.ref a)) ∧ SltC H a C dx vals ∧ (∃ u, H dx = some u ∧ ∀ xs, u ≠ .lst xs) ∧ ∀ (j : Nat) (d : Dt), fs[j]? = some (some d) → ∃ x, vals[j]? = some (some x) ∧ rep K d x (hid M H)
def SgD (δ : List Sl) (σ : L2.St) : Prop := ∀ (i j : Nat) (di dj : List Dt), i ≠ j → δ[i]? = some (Sl.mu di) → δ[j]? = some (Sl.mu dj) → σ[i]? ≠ σ[j]?
/-- the state by data: M0 hidden by the callers, M hidden here, H0 the heap at the entry -/
structure Sg (K : PySem.W.Frag) (M0 M : List Addr) (H0 : Hp) (δ : List Sl) (σ : L2.St) (H : Hp) : Prop where
  ext : Ex H0 H
  sub : ∀ l ∈ M0, l ∈ M
  own : ∀ l ∈ M, l ∈ M0 ∨ H0 l = none
  dom : ∀ l ∈ M, H l ≠ none
  len : δ.length = σ.length
  is_im : SgI K M δ σ H
  is_mu : SgM K M0 M H0 δ σ H
  is_ob : SgO K M0 M H0 δ σ H
  apart : SgD δ σ

theorem SlX_keep {H H' : Hp} {a C dx : Addr} {vals : List (Option V)} (e : Ex H H') (h : SlX.Slt H a C dx vals) : SlX.Slt H' a C dx vals := by
  rcases h with ⟨h1, h2⟩ | ⟨h1, h2⟩
  · exact .inl ⟨e _ _ h1, h2⟩
  · exact .inr ⟨e _ _ h1, e _ _ h2⟩

theorem sltC_keep {H H' : Hp} {a dx : Addr} {C : Addr × Addr × Addr} {vals : List (Option V)} (e : Ex H H') (h : SltC H a C dx vals) : SltC H' a C dx vals := ⟨h.1, SlX_keep e h.2⟩
theorem slt_nl {H : Hp} {a C dx l : Addr} {vals : List (Option V)} {xs : List V} (h : SlX.Slt H a C dx vals) (h2 : H l = some (.lst xs)) : a ≠ l := fun e => by
  rcases h with ⟨h1, _⟩ | ⟨h1, _⟩
  · rw [e, h2] at h1
    cases h1
  · rw [e, h2] at h1
    unfold SlX.SlO at h1
    cases h1
theorem nl_ne {H : Hp} {dx l : Addr} {xs : List V} (h : ∃ u, H dx = some u ∧ ∀ xs, u ≠ .lst xs) (h2 : H l = some (.lst xs)) : dx ≠ l := fun e => by
  obtain ⟨u, h1, h3⟩ := h
  rw [e, h2] at h1
  exact h3 xs (Option.some.inj h1).symm

section
variable {K : PySem.W.Frag} {M0 M : List Addr} {H0 H H' : Hp} {δ : List Sl} {σ : L2.St}
theorem SgI.grow (e : Ex (hid M H) (hid M H')) (h : SgI K M δ σ H) : SgI K M δ σ H' := fun i d q => by
  obtain ⟨v, h1, h2⟩ := h i d q
  exact ⟨v, h1, rep_mono e h2⟩
theorem Sg.grow (g : Sg K M0 M H0 δ σ H) (e : Ex H H') : Sg K M0 M H0 δ σ H' where
  ext := g.ext.trans e
  sub := g.sub
  own := g.own
  dom := fun l hl z => g.dom l hl (e.back z)
  len := g.len
  is_im := g.is_im.grow (hid_mono e)
  is_mu := fun i ds h => by
    obtain ⟨l, xs, h1, h0, h2, h3, h4, h5⟩ := g.is_mu i ds h
    exact ⟨l, xs, h1, h0, h2, h3, e _ _ h4, reps_mono (hid_mono e) h5⟩
  is_ob := fun i C fs h => by
    obtain ⟨a, dx, vals, h1, h2, k1, k2, h3, h4, h5, h6, h7, ⟨u, k3, k4⟩, h8⟩ := g.is_ob i C fs h
    refine ⟨a, dx, vals, h1, h2, k1, k2, h3, h4, h5, h6, sltC_keep e h7, ⟨u, e _ _ k3, k4⟩, fun j d hj => ?_⟩
    obtain ⟨x, hx, hr⟩ := h8 j d hj
    exact ⟨x, hx, rep_mono (hid_mono e) hr⟩
  apart := g.apart
/-- a new address is not hidden -/
theorem Sg.fresh (g : Sg K M0 M H0 δ σ H) {a : Addr} (h : H a = none) : a ∉ M := fun z => g.dom a z h
theorem get_set {α : Type} {δ : List α} {i j : Nat} {s s' : α} (h : (δ.set i s)[j]? = some s') : (j = i ∧ s = s') ∨ (j ≠ i ∧ δ[j]? = some s') := by
  by_cases e : j = i
  · subst e
    by_cases hl : j < δ.length
    · rw [List.getElem?_set_self hl] at h
      exact .inl ⟨rfl, Option.some.inj h⟩
    · rw [List.getElem?_eq_none (by simpa using hl)] at h
      cases h
  · rw [List.getElem?_set_ne (Ne.symm e)] at h
    exact .inr ⟨e, h⟩
/-- a slot gets a value that is data (or nothing is known of it) -/
theorem Sg.set (g : Sg K M0 M H0 δ σ H) (i : Nat) {s : Sl} {o : Option V} (hs : s = Sl.no ∨ ∃ d v, s = Sl.im d ∧ o = some v ∧ rep K d v (hid M H)) : Sg K M0 M H0 (δ.set i s) (σ.set i o) H := by
  have nm : ∀ ds, s ≠ Sl.mu ds := fun ds z => by
    rcases hs with q | ⟨d', v, q, _⟩
    · rw [q] at z
      cases z
    · rw [q] at z
      cases z
  have no : ∀ C fs, s ≠ Sl.ob C fs := fun C fs z => by
    rcases hs with q | ⟨d', v, q, _⟩
    · rw [q] at z
      cases z
    · rw [q] at z
      cases z
  refine ⟨g.ext, g.sub, g.own, g.dom, by rw [List.length_set, List.length_set]; exact g.len, fun j d h => ?_, fun j ds h => ?_, fun j C fs h => ?_, fun j k dj dk hne h1 h2 => ?_⟩
  · rcases get_set h with ⟨e, e2⟩ | ⟨e, h2⟩
    · rcases hs with q | ⟨d', v, q, q2, q3⟩
      · rw [q] at e2
        cases e2
      · rw [q] at e2
        cases e2
        have hl : j < σ.length := by
          have h1 := (List.getElem?_eq_some_iff.mp h).1
          rw [List.length_set, g.len] at h1
          exact h1
        refine ⟨v, ?_, q3⟩
        rw [← e, List.getElem?_set_self hl, q2]
    · obtain ⟨v, h3, h4⟩ := g.is_im j d h2
      exact ⟨v, by rw [List.getElem?_set_ne (Ne.symm e)]; exact h3, h4⟩
  · rcases get_set h with ⟨e, e2⟩ | ⟨e, h2⟩
    · exact absurd e2 (nm _)
    · obtain ⟨l, xs, h3, h0, h4, h5, h6⟩ := g.is_mu j ds h2
      exact ⟨l, xs, h3, h0, h4, by rw [List.getElem?_set_ne (Ne.symm e)]; exact h5, h6⟩
  · rcases get_set h with ⟨e, e2⟩ | ⟨e, h2⟩
    · exact absurd e2 (no _ _)
    · obtain ⟨a, dx, vals, h3, h4, k1, k2, h5, h6, h7, h8, h9⟩ := g.is_ob j C fs h2
      exact ⟨a, dx, vals, h3, h4, k1, k2, h5, h6, h7, by rw [List.getElem?_set_ne (Ne.symm e)]; exact h8, h9⟩
  · rcases get_set h1 with ⟨e, e2⟩ | ⟨e, h3⟩
    · exact absurd e2 (nm _)
    · rcases get_set h2 with ⟨e', e2⟩ | ⟨e', h4⟩
      · exact absurd e2 (nm _)
      · rw [List.getElem?_set_ne (Ne.symm e), List.getElem?_set_ne (Ne.symm e')]
        exact g.apart j k dj dk hne h3 h4
theorem Sg.set_im (g : Sg K M0 M H0 δ σ H) (i : Nat) {d : Dt} {v : V} (r : rep K d v (hid M H)) : Sg K M0 M H0 (δ.set i (.im d)) (σ.set i (some v)) H := g.set i (.inr ⟨d, v, rfl, rfl, r⟩)
theorem Sg.set_no (g : Sg K M0 M H0 δ σ H) (i : Nat) (o : Option V) : Sg K M0 M H0 (δ.set i .no) (σ.set i o) H := g.set i (.inl rfl)
/-- a changing list becomes data -/
theorem Sg.freeze (g : Sg K M0 M H0 δ σ H) {i : Nat} {ds : List Dt} (h : δ[i]? = some (Sl.mu ds)) : ∃ M', Sg K M0 M' H0 (δ.set i (.im (.lst ds))) σ H := by
  obtain ⟨l, xs, h1, h0, h2, h3, h4, h5⟩ := g.is_mu i ds h
  let M' := M.filter fun a => decide (a ≠ l)
  have hm : ∀ a, a ∈ M' ↔ a ∈ M ∧ a ≠ l := fun a => by simp [M', List.mem_filter]
  have e1 : Ex (hid M H) (hid M' H) := hid_sub fun a ha => ((hm a).mp ha).1
  refine ⟨M', g.ext, fun a ha => (hm a).mpr ⟨g.sub a ha, fun z => h0 (z ▸ ha)⟩, fun a ha => g.own a ((hm a).mp ha).1, fun a ha => g.dom a ((hm a).mp ha).1, by rw [List.length_set]; exact g.len, fun j d hj => ?_, fun j es hj => ?_, fun j C fs hj => ?_, fun j k dj dk hne q1 q2 => ?_⟩
  · rcases get_set hj with ⟨e, e2⟩ | ⟨e, h2'⟩
    · cases e2
      refine ⟨.ref l, by rw [e]; exact h3, rep_lst.mpr ⟨l, xs, rfl, ?_, reps_mono e1 h5⟩⟩
      rw [hid_at fun z => ((hm l).mp z).2 rfl]
      exact h4
    · obtain ⟨v, h3', h4'⟩ := g.is_im j d h2'
      exact ⟨v, h3', rep_mono e1 h4'⟩
  · rcases get_set hj with ⟨e, e2⟩ | ⟨e, h2'⟩
    · cases e2
    · obtain ⟨l', xs', k1, k0, k2, k3, k4, k5⟩ := g.is_mu j es h2'
      refine ⟨l', xs', (hm l').mpr ⟨k1, fun z => ?_⟩, k0, k2, k3, k4, reps_mono e1 k5⟩
      refine g.apart j i es ds e h2' h ?_
      rw [k3, h3, z]
  · rcases get_set hj with ⟨e, e2⟩ | ⟨e, h2'⟩
    · cases e2
    · obtain ⟨a, dx, vals, k1, k2, k3, k4, k5, k6, k7, k8, k9, ku, k10⟩ := g.is_ob j C fs h2'
      refine ⟨a, dx, vals, (hm a).mpr ⟨k1, slt_nl k9.2 h4⟩, (hm dx).mpr ⟨k2, nl_ne ku h4⟩, k3, k4, k5, k6, k7, k8, k9, ku, fun j d hj => ?_⟩
      obtain ⟨x, hx, hr⟩ := k10 j d hj
      exact ⟨x, hx, rep_mono e1 hr⟩
  · rcases get_set q1 with ⟨e, e2⟩ | ⟨e, h3'⟩
    · cases e2
    · rcases get_set q2 with ⟨e', e2⟩ | ⟨e', h4'⟩
      · cases e2
      · exact g.apart j k dj dk hne h3' h4'
theorem slt_upd {H : Hp} {a C dx l : Addr} {vals : List (Option V)} {o : HO} (h : SlX.Slt H a C dx vals) (h1 : a ≠ l) (h2 : dx ≠ l) : SlX.Slt (upd H l o) a C dx vals := by
  rcases h with ⟨q1, q2⟩ | ⟨q1, q2⟩
  · exact .inl ⟨by rw [upd_ne h1]; exact q1, q2⟩
  · exact .inr ⟨by rw [upd_ne h1]; exact q1, by rw [upd_ne h2]; exact q2⟩
/-- a list is changed -/
theorem Sg.put (g : Sg K M0 M H0 δ σ H) {i : Nat} {ds es : List Dt} {l : Addr} {xs ys : List V} (h : δ[i]? = some (Sl.mu ds)) (hl : σ[i]? = some (some (V.ref l))) (hx : H l = some (.lst xs)) (r : reps K es ys (hid M H)) :
    Sg K M0 M H0 (δ.set i (.mu es)) σ (upd H l (.lst ys)) := by
  obtain ⟨l0, xs0, h1, h0, h2, h3, h4, h5⟩ := g.is_mu i ds h
  rw [hl] at h3
  cases h3
  have hh : hid M (upd H l (.lst ys)) = hid M H := hid_upd h1
  refine ⟨fun a o e => ?_, g.sub, g.own, fun a ha z => ?_, by rw [List.length_set]; exact g.len, fun j d hj => ?_, fun j es' hj => ?_, fun j C fs hj => ?_, fun j k dj dk hne q1 q2 => ?_⟩
  · rw [upd_ne fun z => by rw [z, h2] at e; cases e]
    exact g.ext a o e
  · by_cases e : a = l
    · rw [e, upd_same] at z
      cases z
    · rw [upd_ne e] at z
      exact g.dom a ha z
  · rcases get_set hj with ⟨e, e2⟩ | ⟨e, h2'⟩
    · cases e2
    · rw [hh]
      exact g.is_im j d h2'
  · rcases get_set hj with ⟨e, e2⟩ | ⟨e, h2'⟩
    · cases e2
      rw [hh, e]
      exact ⟨l, ys, h1, h0, h2, hl, upd_same, r⟩
    · obtain ⟨l', xs', k1, k0, k2, k3, k4, k5⟩ := g.is_mu j es' h2'
      rw [hh]
      refine ⟨l', xs', k1, k0, k2, k3, ?_, k5⟩
      rw [upd_ne fun z => g.apart j i es' ds e h2' h (by rw [k3, hl, z])]
      exact k4
  · rcases get_set hj with ⟨e, e2⟩ | ⟨e, h2'⟩
    · cases e2
    · obtain ⟨a, dx, vals, k1, k2, k3, k4, k5, k6, k7, k8, k9, ku, k10⟩ := g.is_ob j C fs h2'
      rw [hh]
      refine ⟨a, dx, vals, k1, k2, k3, k4, k5, k6, k7, k8, ⟨k9.1, slt_upd k9.2 (slt_nl k9.2 h4) (nl_ne ku h4)⟩, ?_, k10⟩
      obtain ⟨u, q1, q2⟩ := ku
      exact ⟨u, by rw [upd_ne (nl_ne ⟨u, q1, q2⟩ h4)]; exact q1, q2⟩
  · have look : ∀ {m : Nat} {dm : List Dt}, (δ.set i (Sl.mu es))[m]? = some (Sl.mu dm) → ∃ dm', δ[m]? = some (Sl.mu dm') := fun {m dm} q => by
      rcases get_set q with ⟨e, _⟩ | ⟨e, q'⟩
      · exact ⟨ds, by rw [e]; exact h⟩
      · exact ⟨dm, q'⟩
    obtain ⟨dj', q1'⟩ := look q1
    obtain ⟨dk', q2'⟩ := look q2
    exact g.apart j k dj' dk' hne q1' q2'
/-- a new list, to be changed -/
theorem Sg.new_mu (g : Sg K M0 M H0 δ σ H) (i : Nat) {ds : List Dt} {l : Addr} {xs : List V} (hn : H l = none) (r : reps K ds xs (hid M H)) : Sg K M0 (l :: M) H0 (δ.set i (.mu ds)) (σ.set i (some (V.ref l))) (upd H l (.lst xs)) := by
  have hlM : l ∉ M := g.fresh hn
  have e1 : Ex (hid M H) (hid (l :: M) (upd H l (.lst xs))) := fun a o h => by
    obtain ⟨h1, h2⟩ := hid_out h
    have ne : a ≠ l := fun z => by
      rw [z, hn] at h2
      cases h2
    rw [hid_at (by simp only [List.mem_cons, not_or]; exact ⟨ne, h1⟩), upd_ne ne]
    exact h2
  have hlen : ∀ j : Nat, j < δ.length ↔ j < σ.length := fun j => by rw [g.len]
  have hn0 : H0 l = none := g.ext.back hn
  have hl0 : l ∉ M0 := fun z => hlM (g.sub l z)
  have old : ∀ {a : Addr} {o : HO}, H a = some o → a ≠ l := fun {a o} h z => by
    rw [z, hn] at h
    cases h
  refine ⟨g.ext.trans (Ex.new hn), fun a ha => List.mem_cons_of_mem _ (g.sub a ha), fun a ha => ?_, fun a ha z => ?_, by rw [List.length_set, List.length_set]; exact g.len, fun j d hj => ?_, fun j es' hj => ?_, fun j C fs hj => ?_, fun j k dj dk hne q1 q2 => ?_⟩
  · rcases List.mem_cons.mp ha with e | e
    · rw [e]
      exact .inr hn0
    · exact g.own a e
  · rcases List.mem_cons.mp ha with e | e
    · rw [e, upd_same] at z
      cases z
    · rw [upd_ne fun q => hlM (by rw [← q]; exact e)] at z
      exact g.dom a e z
  · rcases get_set hj with ⟨e, e2⟩ | ⟨e, h2'⟩
    · cases e2
    · obtain ⟨v, h3', h4'⟩ := g.is_im j d h2'
      exact ⟨v, by rw [List.getElem?_set_ne (Ne.symm e)]; exact h3', rep_mono e1 h4'⟩
  · rcases get_set hj with ⟨e, e2⟩ | ⟨e, h2'⟩
    · cases e2
      have hj2 : j < σ.length := by
        have h1 := (List.getElem?_eq_some_iff.mp hj).1
        rw [List.length_set, g.len] at h1
        exact h1
      rw [← e, List.getElem?_set_self hj2]
      exact ⟨l, xs, List.mem_cons_self, hl0, hn0, rfl, upd_same, reps_mono e1 r⟩
    · obtain ⟨l', xs', k1, k0, k2, k3, k4, k5⟩ := g.is_mu j es' h2'
      exact ⟨l', xs', List.mem_cons_of_mem _ k1, k0, k2, by rw [List.getElem?_set_ne (Ne.symm e)]; exact k3, by rw [upd_ne (old k4)]; exact k4, reps_mono e1 k5⟩
  · rcases get_set hj with ⟨e, e2⟩ | ⟨e, h2'⟩
    · cases e2
    · obtain ⟨a, dx, vals, k1, k2, k3, k4, k5, k6, k7, k8, k9, ⟨u, q1, q2⟩, k10⟩ := g.is_ob j C fs h2'
      refine ⟨a, dx, vals, List.mem_cons_of_mem _ k1, List.mem_cons_of_mem _ k2, k3, k4, k5, k6, k7, by rw [List.getElem?_set_ne (Ne.symm e)]; exact k8, sltC_keep (Ex.new hn) k9, ⟨u, Ex.new hn _ _ q1, q2⟩, fun j d hj => ?_⟩
      obtain ⟨x, hx, hr⟩ := k10 j d hj
      exact ⟨x, hx, rep_mono e1 hr⟩
  · have lt : ∀ {m : Nat} {q : Sl}, (δ.set i (Sl.mu ds))[m]? = some q → m < σ.length := fun {m q} z => by
      have h1 := (List.getElem?_eq_some_iff.mp z).1
      rw [List.length_set, g.len] at h1
      exact h1
    rcases get_set q1 with ⟨e, e2⟩ | ⟨e, h3'⟩
    · rcases get_set q2 with ⟨e', e2'⟩ | ⟨e', h4'⟩
      · exact absurd (e.trans e'.symm) hne
      · obtain ⟨l', xs', k1, k0, k2, k3, k4, k5⟩ := g.is_mu k dk h4'
        rw [← e, List.getElem?_set_self (lt q1), List.getElem?_set_ne hne, k3]
        intro z
        exact old k4 (V.ref.inj (Option.some.inj (Option.some.inj z))).symm
    · rcases get_set q2 with ⟨e', e2'⟩ | ⟨e', h4'⟩
      · obtain ⟨l', xs', k1, k0, k2, k3, k4, k5⟩ := g.is_mu j dj h3'
        rw [← e', List.getElem?_set_self (lt q2), List.getElem?_set_ne (Ne.symm hne), k3]
        intro z
        exact old k4 (V.ref.inj (Option.some.inj (Option.some.inj z)))
      · rw [List.getElem?_set_ne (Ne.symm e), List.getElem?_set_ne (Ne.symm e')]
        exact g.apart j k dj dk hne h3' h4'
end
end DL

namespace DL
open PySem PySem.Spec PyProof.Rows L2

/-! ### the semantics as readings -/
def tev (X : Cx) (e : Expr) : TE := fun σ H Q => ∀ pins s, Inv X pins σ H s → wpAny (model X.prog X.w) X.A (eval e X.env) (EP X pins σ Q) X.xe s
def tet (X : Cx) (e : Expr) : TT := fun σ H Q => ∀ pins s, Inv X pins σ H s → wpAny (model X.prog X.w) X.A (isTrue e X.env (eval e X.env)) (TP X pins σ Q) X.xe s
def tew (X : Cx) (e : Expr) : TT := fun σ H Q => ∀ whole pins s, Inv X pins σ H s → wpAny (model X.prog X.w) X.A (isTrue e X.env whole) (TP X pins σ Q) X.xe s
def tea (X : Cx) (es : List Expr) : TA := fun σ H Q => ∀ (pos : Pos) pins s, Inv X pins σ H s → wpAny (model X.prog X.w) X.A (spliced (backTo pos (starEach es X.env))) (AP X pins σ Q) X.xe s
def tes (X : Cx) (st : List Stmt) : TS := fun D σ H => ∀ pins s, Inv X pins σ H s → wpAny (model X.prog X.w) X.A (execs st X.env) (SP X pins D) X.xe s
section
variable {X : Cx} {e : Expr} {es : List Expr} {st : List Stmt} {σ : L2.St} {H : Hp}
theorem pe_tev : PE X e (tev X e) := ⟨fun pins s σ H Q I h => h pins s I⟩
theorem pt_tet : PT X e (tet X e) := ⟨fun pins s σ H Q I h => h pins s I⟩
theorem pw_tew : PW X e (tew X e) := ⟨fun wh pins s σ H Q I h => h wh pins s I⟩
theorem pa_tea : PA X es (tea X es) := ⟨fun pos pins s σ H Q I h => h pos pins s I⟩
theorem pss_tes : PSs X st (tes X st) := ⟨fun pins s σ H D I h => h pins s I⟩
theorem tev_of {t : TE} {Q : VK} (h : PE X e t) (q : t σ H Q) : tev X e σ H Q := fun pins s I => h.run pins s σ H Q I q
theorem tet_of {t : TT} {Q : Bool → Hp → Prop} (h : PT X e t) (q : t σ H Q) : tet X e σ H Q := fun pins s I => h.run pins s σ H Q I q
theorem tew_of {t : TT} {Q : Bool → Hp → Prop} (h : PW X e t) (q : t σ H Q) : tew X e σ H Q := fun wh pins s I => h.run wh pins s σ H Q I q
theorem tea_of {t : TA} {Q : List V → Hp → Prop} (h : PA X es t) (q : t σ H Q) : tea X es σ H Q := fun pos pins s I => h.run pos pins s σ H Q I q
theorem tes_of {t : TS} {D : Ends} (h : PSs X st t) (q : t D σ H) : tes X st D σ H := fun pins s I => h.run pins s σ H D I q
theorem tev_mono {Q Q' : VK} (h : tev X e σ H Q) (k : ∀ v H2, Q v H2 → Q' v H2) : tev X e σ H Q' := fun pins s I => thn (h pins s I) fun _ _ ⟨v, H2, I2, r, q⟩ => ⟨v, H2, I2, r, k _ _ q⟩
theorem tet_mono {Q Q' : Bool → Hp → Prop} (h : tet X e σ H Q) (k : ∀ v H2, Q v H2 → Q' v H2) : tet X e σ H Q' := fun pins s I => thn (h pins s I) fun _ _ ⟨H2, I2, q⟩ => ⟨H2, I2, k _ _ q⟩
theorem tew_mono {Q Q' : Bool → Hp → Prop} (h : tew X e σ H Q) (k : ∀ v H2, Q v H2 → Q' v H2) : tew X e σ H Q' := fun wh pins s I => thn (h wh pins s I) fun _ _ ⟨H2, I2, q⟩ => ⟨H2, I2, k _ _ q⟩
theorem tea_mono {Q Q' : List V → Hp → Prop} (h : tea X es σ H Q) (k : ∀ v H2, Q v H2 → Q' v H2) : tea X es σ H Q' := fun pos pins s I => thn (h pos pins s I) fun _ _ ⟨v, H2, I2, r, q⟩ => ⟨v, H2, I2, r, k _ _ q⟩
theorem tes_mono {D D' : Ends} (h : tes X st D σ H) (k1 : ∀ σ H, D.nx σ H → D'.nx σ H) (k2 : ∀ v H, D.rt v H → D'.rt v H) (k3 : ∀ σ H, D.bk σ H → D'.bk σ H) (k4 : ∀ σ H, D.ct σ H → D'.ct σ H) : tes X st D' σ H := fun pins s I => thn (h pins s I) fun f s' q => by
  cases f with
  | next => obtain ⟨σ', H', I', q⟩ := q; exact ⟨σ', H', I', k1 _ _ q⟩
  | brk => obtain ⟨σ', H', I', q⟩ := q; exact ⟨σ', H', I', k3 _ _ q⟩
  | cont => obtain ⟨σ', H', I', q⟩ := q; exact ⟨σ', H', I', k4 _ _ q⟩
  | ret u => obtain ⟨v, σ', H', I', r, q⟩ := q; exact ⟨v, σ', H', I', r, k2 _ _ q⟩
end

/-! ### the context of a body: its names, its scope, the room -/
structure Cg (P : Program) (w : World) (K : PySem.W.Frag) (mg : Str → Option Value) (base : Heap) (k : Nat) (N : List Str) (sc : Scope) (X : Cx) : Prop where
  prog : X.prog = P
  wd : X.w = w
  fr : X.K = K
  glo : X.mg = mg
  bs : X.base = base
  nm : X.N = N
  scp : X.env.scope = sc
  nd : N.Nodup
  room : Room k X.A
  calm : X.calm = true
  nox : X.xe = fun _ _ => False

/-- the built-ins' names that the text uses: no module value stands before them -/
def isB (x : Str) : Bool := (["len", "range", "tuple", "list", "int", "str", "max", "min", "abs", "sum", "all", "any", "isinstance", "enumerate", "zip", "repr", "bool", "ValueError"] : List Str).any fun y => x == y
def BF (mg : Str → Option Value) : Prop := ∀ x, isB x = true → mg x = none
section
variable {P : Program} {w : World} {K : PySem.W.Frag} {mg : Str → Option Value} {base : Heap} {k : Nat} {N : List Str} {sc : Scope} {X : Cx} {x : Str} {n : Nat}
theorem Cg.gl (c : Cg P w K mg base k N sc X) (h : sc.names.lookup x = some .globalImplicit) : Gl X x := by
  unfold Gl Env.kindOf
  rw [c.scp]
  exact h
theorem Cg.vis (c : Cg P w K mg base k N sc X) (h : Vis sc x) : Vis X.env.scope x := by
  rw [c.scp]
  exact h
theorem Cg.na (c : Cg P w K mg base k N sc X) (h : N[n]? = some x) : X.N[n]? = some x := by
  rw [c.nm]
  exact h
theorem Cg.bf (c : Cg P w K mg base k N sc X) (h : BF mg) (e : isB x = true) : X.mg x = none := by
  rw [c.glo]
  exact h x e
end

/-! ### the judgements -/
/-- e gives data of R -/
def EvE (X : Cx) (δ : List Sl) (e : Expr) (R : Dt → Prop) : Prop := ∀ M0 M H0 σ H, Sg X.K M0 M H0 δ σ H → tev X e σ H fun v H2 => Ex H H2 ∧ ∃ d, R d ∧ rep X.K d v (hid M H2)
/-- e gives a new list -/
def EvL (X : Cx) (δ : List Sl) (e : Expr) (ds : List Dt) : Prop := ∀ M0 M H0 σ H, Sg X.K M0 M H0 δ σ H → tev X e σ H fun v H2 => ∃ l xs H1, v = .ref l ∧ Ex H H1 ∧ H1 l = none ∧ H2 = upd H1 l (.lst xs) ∧ reps X.K ds xs (hid M H1)
/-- the test e has the answer b -/
def EvT (X : Cx) (δ : List Sl) (e : Expr) (b : Bool) : Prop := ∀ M0 M H0 σ H, Sg X.K M0 M H0 δ σ H → tet X e σ H fun c H2 => Ex H H2 ∧ c = b
def EvW (X : Cx) (δ : List Sl) (e : Expr) (b : Bool) : Prop := ∀ M0 M H0 σ H, Sg X.K M0 M H0 δ σ H → tew X e σ H fun c H2 => Ex H H2 ∧ c = b
/-- arguments -/
def EvA (X : Cx) (δ : List Sl) (es : List Expr) (R : List Dt → Prop) : Prop := ∀ M0 M H0 σ H, Sg X.K M0 M H0 δ σ H → tea X es σ H fun xs H2 => Ex H H2 ∧ ∃ ds, R ds ∧ reps X.K ds xs (hid M H2)
/-- what is wanted behind a block, by data -/
structure DEnds where
  nx : List Sl → Prop := fun _ => False
  rt : Dt → Prop := fun _ => False
  bk : List Sl → Prop := fun _ => False
  ct : List Sl → Prop := fun _ => False
def dEnds (K : PySem.W.Frag) (M0 : List Addr) (H0 : Hp) (D : DEnds) : Ends where
  nx := fun σ H => ∃ M δ, D.nx δ ∧ Sg K M0 M H0 δ σ H
  rt := fun v H => ∃ d, D.rt d ∧ Ex H0 H ∧ rep K d v (hid M0 H)
  bk := fun σ H => ∃ M δ, D.bk δ ∧ Sg K M0 M H0 δ σ H
  ct := fun σ H => ∃ M δ, D.ct δ ∧ Sg K M0 M H0 δ σ H
def RunS (X : Cx) (δ : List Sl) (st : List Stmt) (D : DEnds) : Prop := ∀ M0 M H0 σ H, Sg X.K M0 M H0 δ σ H → tes X st (dEnds X.K M0 H0 D) σ H

/-- exactly d -/
abbrev is_ (d : Dt) : Dt → Prop := fun x => x = d
abbrev EvD (X : Cx) (δ : List Sl) (e : Expr) (d : Dt) : Prop := EvE X δ e (is_ d)
abbrev are_ (ds : List Dt) : List Dt → Prop := fun x => x = ds

section
variable {X : Cx} {δ : List Sl} {a b c e : Expr} {es : List Expr} {pos : Pos} {Ra Rb R R' : Dt → Prop}
theorem EvE.mono (h : EvE X δ e R) (k : ∀ d, R d → R' d) : EvE X δ e R' := fun M0 M H0 σ H g => tev_mono (h M0 M H0 σ H g) fun v H2 ⟨e, d, r, q⟩ => ⟨e, d, k d r, q⟩
theorem EvE.is {d d' : Dt} (h : EvD X δ e d) (k : d = d') : EvD X δ e d' := h.mono fun x r => r.trans k

/-! ### leaves -/
theorem v_int {i j} : EvD X δ (.Constant (.int i) j pos) (.int i) := fun _ _ _ _ H _ => tev_of pe_int ⟨Ex.rfl, _, rfl, rep_int.mpr rfl⟩
theorem v_bl {i j} : EvD X δ (.Constant (.bool i) j pos) (.bl i) := fun _ _ _ _ H _ => tev_of pe_bl ⟨Ex.rfl, _, rfl, rep_bl.mpr rfl⟩
theorem v_non {j} : EvD X δ (.Constant .none j pos) .non := fun _ _ _ _ H _ => tev_of pe_non ⟨Ex.rfl, _, rfl, rep_non.mpr rfl⟩
theorem v_str {i j} : EvD X δ (.Constant (.str i) j pos) (.str i) := fun _ _ _ _ H _ => tev_of pe_str ⟨Ex.rfl, _, rfl, rep_str.mpr rfl⟩
/-- the name in slot i -/
theorem v_var (i : Nat) {x : Str} {d : Dt} (hN : X.N[i]? = some x := by first | rfl | exact Cg.na (by assumption) rfl) (hd : δ[i]? = some (Sl.im d) := by rfl) (hv : Vis X.env.scope x := by first | exact Or.inl rfl | exact Or.inr (Or.inl rfl) | exact Or.inr (Or.inr rfl) | exact Cg.vis (by assumption) (by first | exact Or.inl rfl | exact Or.inr (Or.inl rfl) | exact Or.inr (Or.inr rfl)))
    (h1 : (x == ("__debug__" : Str)) = false := by decide) (h2 : (x == ("__classdict__" : Str)) = false := by decide) : EvD X δ (.Name x pos) d := fun M0 M H0 σ H g => by
  obtain ⟨v, e1, r⟩ := g.is_im i d hd
  exact tev_of (pe_var hN hv h1 h2) ⟨v, e1, Ex.rfl, d, rfl, r⟩
/-- a module's value -/
theorem v_glob {x : Str} {d : Dt} {v : V} {u : Value} (hg : Gl X x) (hm : X.mg x = some u) (r : RelV v u) (hr : ∀ H, rep X.K d v H) (hd : (x == ("__debug__" : Str)) = false := by decide) : EvD X δ (.Name x pos) d := fun M0 M H0 σ H g =>
  tev_of (pe_glob hg hm r hd) ⟨Ex.rfl, d, rfl, hr _⟩
theorem v_gint {x : Str} {i : Int} (hm : ∃ t, X.mg x = some (.int i t)) (hg : Gl X x := by first | rfl | exact Cg.gl (by assumption) rfl) (hd : (x == ("__debug__" : Str)) = false := by decide) : EvD X δ (.Name x pos) (.int i) :=
  let ⟨t, h⟩ := hm; v_glob hg h (v := .int i) ⟨t, rfl⟩ (fun _ => rep_int.mpr rfl) hd
theorem v_gstr {x : Str} {i : Str} (hm : ∃ t, X.mg x = some (.str i t)) (hg : Gl X x := by first | rfl | exact Cg.gl (by assumption) rfl) (hd : (x == ("__debug__" : Str)) = false := by decide) : EvD X δ (.Name x pos) (.str i) :=
  let ⟨t, h⟩ := hm; v_glob hg h (v := .str i) ⟨t, rfl⟩ (fun _ => rep_str.mpr rfl) hd
theorem v_gref {x : Str} {C : Addr} (hm : X.mg x = some (.ref C)) (hg : Gl X x := by first | rfl | exact Cg.gl (by assumption) rfl) (hd : (x == ("__debug__" : Str)) = false := by decide) : EvD X δ (.Name x pos) (.val (.ref C)) :=
  v_glob hg hm (v := .ref C) rfl (fun _ => rep_val.mpr rfl) hd
/-- a built-in's name as a value (a class) -/
theorem v_blt {x : Str} {v : V} {u : Value} (hm : X.mg x = none) (hv : bootBuiltins x = some u) (r : RelV v u) (hg : Gl X x := by first | rfl | exact Cg.gl (by assumption) rfl) (hn : x ≠ "__name__" := by decide) (hd : (x == ("__debug__" : Str)) = false := by decide) : EvD X δ (.Name x pos) (.val v) := fun M0 M H0 σ H g =>
  tev_of (pe_bltn hg hm hv r hn hd) ⟨Ex.rfl, _, rfl, rep_val.mpr rfl⟩

/-! ### two expressions in a row -/
theorem ev2 (ha : EvE X δ a Ra) (hb : EvE X δ b Rb) {M0 M : List Addr} {H0 : Hp} {σ : L2.St} {H : Hp} (g : Sg X.K M0 M H0 δ σ H) {Q : V → V → Hp → Prop}
    (k : ∀ x y dx dy H2, Ex H H2 → Ra dx → Rb dy → rep X.K dx x (hid M H2) → rep X.K dy y (hid M H2) → Sg X.K M0 M H0 δ σ H2 → Q x y H2) : tev X a σ H fun x H1 => tev X b σ H1 fun y H2 => Q x y H2 :=
  tev_mono (ha M0 M H0 σ H g) fun x H1 ⟨e1, dx, r1, q1⟩ => tev_mono (hb M0 M H0 σ H1 (g.grow e1)) fun y H2 ⟨e2, dy, r2, q2⟩ =>
    k x y dx dy H2 (e1.trans e2) r1 r2 (rep_mono (hid_mono e2) q1) q2 ((g.grow e1).grow e2)
/-- a two-place operation by its rule on values: what it wants, what it gives -/
def OpD (X : Cx) (r : R2) (x y : Dt) (R : Dt → Prop) : Prop := ∀ M H vx vy, (∀ l ∈ M, H l ≠ none) → rep X.K x vx (hid M H) → rep X.K y vy (hid M H) → r vx vy H fun v H2 => Ex H H2 ∧ ∃ d, R d ∧ rep X.K d v (hid M H2)
theorem R2_up {r : R2} {x y : Dt} {M : List Addr} {H H0 : Hp} {vx vy : V} (o : r vx vy H fun v H2 => Ex H H2 ∧ ∃ d, R d ∧ rep X.K d v (hid M H2)) (e : Ex H0 H) (k : ∀ {Q Q' : VK}, r vx vy H Q → (∀ v H2, Q v H2 → Q' v H2) → r vx vy H Q') :
    r vx vy H fun v H2 => Ex H0 H2 ∧ ∃ d, R d ∧ rep X.K d v (hid M H2) := k o fun v H2 ⟨e2, q⟩ => ⟨e.trans e2, q⟩
theorem v_op {op : Operator} {r : R2} (ho : OpR X (binaryOp op) r) (ha : EvE X δ a Ra) (hb : EvE X δ b Rb) (h : ∀ dx dy, Ra dx → Rb dy → OpD X r dx dy R) : EvE X δ (.BinOp a op b pos) R := fun M0 M H0 σ H g => by
  refine tev_of (pe_op (fun pins s σ H x y v u Q I rx ry (h : ∃ Q' : VK, r x y H Q' ∧ ∀ v H2, Q' v H2 → Q v H2) => ?_) pe_tev pe_tev) (ev2 ha hb g (Q := fun x y H2 => ∃ Q' : VK, r x y H2 Q' ∧ ∀ v H2, Q' v H2 → (Ex H H2 ∧ ∃ d, R d ∧ rep X.K d v (hid M H2))) fun x y dx dy H2 e r1 r2 q1 q2 g2 => ⟨_, h dx dy r1 r2 M H2 x y g2.dom q1 q2, fun v H3 ⟨e3, q⟩ => ⟨e.trans e3, q⟩⟩)
  obtain ⟨Q', h1, h2⟩ := h
  exact thn (ho pins s σ H x y v u Q' I rx ry h1) fun _ _ ⟨v, H2, I2, r2, q⟩ => ⟨v, H2, I2, r2, h2 _ _ q⟩
end
end DL

namespace DL
open PySem PySem.Spec PyProof.Rows L2

/-! ### rules on values, with any weaker end -/
def upR (r : R2) : R2 := fun x y H Q => ∃ Q' : VK, r x y H Q' ∧ ∀ v H2, Q' v H2 → Q v H2
def upU (r : V → Hp → VK → Prop) : V → Hp → VK → Prop := fun x H Q => ∃ Q' : VK, r x H Q' ∧ ∀ v H2, Q' v H2 → Q v H2
def upC (r : List V → Hp → VK → Prop) : List V → Hp → VK → Prop := fun x H Q => ∃ Q' : VK, r x H Q' ∧ ∀ v H2, Q' v H2 → Q v H2
theorem thnE {X : Cx} {pins : List (Addr × Obj)} {σ : L2.St} {Q Q' : VK} {t : Sem Value} {s : Shared} {E : Value → Shared → Prop} (h : wpAny (model X.prog X.w) X.A t (EP X pins σ Q') E s) (k : ∀ v H2, Q' v H2 → Q v H2) : wpAny (model X.prog X.w) X.A t (EP X pins σ Q) E s :=
  thn h fun _ _ ⟨v, H2, I2, r2, q⟩ => ⟨v, H2, I2, r2, k _ _ q⟩
section
variable {X : Cx}
theorem op_up {f : Value → Value → Sem Value} {r : R2} (ho : OpR X f r) : OpR X f (upR r) := fun pins s σ H x y v u Q I rx ry ⟨Q', h1, h2⟩ => thnE (ho pins s σ H x y v u Q' I rx ry h1) h2
theorem un_up {f : Value → Sem Value} {r : V → Hp → VK → Prop} (ho : UnR X f r) : UnR X f (upU r) := fun pins s σ H x v Q I rx ⟨Q', h1, h2⟩ => thnE (ho pins s σ H x v Q' I rx h1) h2
theorem call_up {f : Value} {r : List V → Hp → VK → Prop} (ho : CallR X f r) : CallR X f (upC r) := fun pins s σ H x v Q I rx ⟨Q', h1, h2⟩ => thnE (ho pins s σ H x v Q' I rx h1) h2
theorem ix_up {r : R2} (ho : IxR X r) : IxR X (upR r) := fun a b pins s σ H x y v u Q I rx ry ⟨Q', h1, h2⟩ hs => thnE (ho a b pins s σ H x y v u Q' I rx ry h1 hs) h2
end
/-- what a rule on values gives on data, from every heap that shows it -/
def UnD (X : Cx) (r : V → Hp → VK → Prop) (x : Dt) (R : Dt → Prop) : Prop := ∀ M H vx, (∀ l ∈ M, H l ≠ none) → rep X.K x vx (hid M H) → r vx H fun v H2 => Ex H H2 ∧ ∃ d, R d ∧ rep X.K d v (hid M H2)
def CallD (X : Cx) (r : List V → Hp → VK → Prop) (xs : List Dt) (R : Dt → Prop) : Prop := ∀ M H vx, (∀ l ∈ M, H l ≠ none) → reps X.K xs vx (hid M H) → r vx H fun v H2 => Ex H H2 ∧ ∃ d, R d ∧ rep X.K d v (hid M H2)

section
variable {X : Cx} {δ : List Sl} {a b c e : Expr} {es : List Expr} {pos : Pos} {Ra Rb Rc R R' : Dt → Prop} {Rs : List Dt → Prop}
theorem v_un {op : UnaryOp} {r : V → Hp → VK → Prop} (ho : UnR X (unaryOp op) r) (ha : EvE X δ a Ra) (h : ∀ dx, Ra dx → UnD X r dx R) : EvE X δ (.UnaryOp op a pos) R := fun M0 M H0 σ H g =>
  tev_of (pe_un (un_up ho) pe_tev) (tev_mono (ha M0 M H0 σ H g) fun x H1 ⟨e1, dx, r1, q1⟩ => ⟨_, h dx r1 M H1 x (g.grow e1).dom q1, fun v H2 ⟨e2, q⟩ => ⟨e1.trans e2, q⟩⟩)
/-- a comparison, as a value and as a test -/
theorem v_cmp {op : CmpOp} {r : R2} (ho : OpR X (compareOp op) r) (ha : EvE X δ a Ra) (hb : EvE X δ b Rb) (h : ∀ dx dy, Ra dx → Rb dy → OpD X r dx dy R) (hm : behindInMarks op b = false) : EvE X δ (.Compare a [op] [b] pos) R := fun M0 M H0 σ H g =>
  tev_of (pe_cmpR (op_up ho) pe_tev pe_tev hm) (ev2 ha hb g fun x y dx dy H2 e r1 r2 q1 q2 g2 => ⟨_, h dx dy r1 r2 M H2 x y g2.dom q1 q2, fun v H3 ⟨e3, q⟩ => ⟨e.trans e3, q⟩⟩)
theorem t_cmp {op : CmpOp} {r : R2} {k : Bool} (ho : OpR X (compareOp op) r) (ha : EvE X δ a Ra) (hb : EvE X δ b Rb) (h : ∀ dx dy, Ra dx → Rb dy → OpD X r dx dy (is_ (.bl k))) (hm : behindInMarks op b = false) : EvT X δ (.Compare a [op] [b] pos) k := fun M0 M H0 σ H g =>
  tet_of (pt_cmpR (op_up ho) pe_tev pe_tev hm) (ev2 ha hb g fun x y dx dy H2 e r1 r2 q1 q2 g2 => ⟨_, h dx dy r1 r2 M H2 x y g2.dom q1 q2, fun v H3 ⟨e3, d, ed, q⟩ => by
    cases ed
    rw [rep_bl.mp q]
    exact ⟨k, rfl, e.trans e3, rfl⟩⟩)
/-- a value that is True or False, as a test -/
theorem t_val {k : Bool} (h : EvD X δ e (.bl k)) (he : ∀ whole, isTrue e X.env whole = (do let v ← whole; standAt e.pos; holding [v] (truthy v)) := by intro _; rfl) : EvT X δ e k := fun M0 M H0 σ H g =>
  tet_of (pt_val pe_tev he) (tev_mono (h M0 M H0 σ H g) fun v H2 ⟨e2, d, ed, q⟩ => by
    cases ed
    rw [rep_bl.mp q]
    exact ⟨k, rfl, e2, rfl⟩)
theorem t_w {k : Bool} (h : EvW X δ e k) : EvT X δ e k := fun M0 M H0 σ H g => tet_of (PW.pt pw_tew) (h M0 M H0 σ H g)
theorem w_and1 {k : Bool} (h : EvT X δ a k) : EvW X δ (.BoolOp .And [a] pos) k := fun M0 M H0 σ H g => tew_of (pw_and1 pt_tet) (h M0 M H0 σ H g)
theorem w_or1 {k : Bool} (h : EvT X δ a k) : EvW X δ (.BoolOp .Or [a] pos) k := fun M0 M H0 σ H g => tew_of (pw_or1 pt_tet) (h M0 M H0 σ H g)
theorem w_and {k m : Bool} (h : EvT X δ a k) (h2 : k = true → EvW X δ (.BoolOp .And (b :: es) pos) m) : EvW X δ (.BoolOp .And (a :: b :: es) pos) (k && m) := fun M0 M H0 σ H g =>
  tew_of (pw_and pt_tet pw_tew) (tet_mono (h M0 M H0 σ H g) fun c H1 ⟨e1, ec⟩ => by
    subst ec
    cases c with
    | true =>
      rw [if_pos rfl]
      exact tew_mono (h2 rfl M0 M H0 σ H1 (g.grow e1)) fun c H2 ⟨e2, ec⟩ => ⟨e1.trans e2, by rw [ec]; rfl⟩
    | false =>
      rw [if_neg Bool.false_ne_true]
      exact ⟨e1, rfl⟩)
theorem w_or {k m : Bool} (h : EvT X δ a k) (h2 : k = false → EvW X δ (.BoolOp .Or (b :: es) pos) m) : EvW X δ (.BoolOp .Or (a :: b :: es) pos) (k || m) := fun M0 M H0 σ H g =>
  tew_of (pw_or pt_tet pw_tew) (tet_mono (h M0 M H0 σ H g) fun c H1 ⟨e1, ec⟩ => by
    subst ec
    cases c with
    | true =>
      rw [if_pos rfl]
      exact ⟨e1, rfl⟩
    | false =>
      rw [if_neg Bool.false_ne_true]
      exact tew_mono (h2 rfl M0 M H0 σ H1 (g.grow e1)) fun c H2 ⟨e2, ec⟩ => ⟨e1.trans e2, by rw [ec]; rfl⟩)
theorem t_not {k : Bool} (h : EvT X δ a k) : EvT X δ (.UnaryOp .Not a pos) (!k) := fun M0 M H0 σ H g =>
  tet_of (pt_not pt_tet) (tet_mono (h M0 M H0 σ H g) fun c H1 ⟨e1, ec⟩ => ⟨e1, by rw [ec]⟩)
theorem EvT.is {k m : Bool} (h : EvT X δ a k) (e : k = m) : EvT X δ a m := e ▸ h
theorem EvW.is {k m : Bool} (h : EvW X δ a k) (e : k = m) : EvW X δ a m := e ▸ h
theorem v_one {op : BoolOp} (h : EvE X δ a R) : EvE X δ (.BoolOp op [a] pos) R := fun M0 M H0 σ H g => tev_of (pe_one pe_tev) (h M0 M H0 σ H g)
theorem v_and {k m : Bool} (h : EvD X δ a (.bl k)) (h2 : k = true → EvD X δ (.BoolOp .And (b :: es) pos) (.bl m)) : EvD X δ (.BoolOp .And (a :: b :: es) pos) (.bl (k && m)) := fun M0 M H0 σ H g =>
  tev_of (pe_and pe_tev pe_tev) (tev_mono (h M0 M H0 σ H g) fun x H1 ⟨e1, d, ed, q⟩ => by
    cases ed
    refine ⟨k, rep_bl.mp q, ?_⟩
    cases k with
    | true =>
      rw [if_pos rfl]
      exact tev_mono (h2 rfl M0 M H0 σ H1 (g.grow e1)) fun c H2 ⟨e2, d, ed, q⟩ => ⟨e1.trans e2, d, ed, q⟩
    | false =>
      rw [if_neg Bool.false_ne_true]
      exact ⟨e1, _, rfl, rep_bl.mpr rfl⟩)
theorem v_or {k m : Bool} (h : EvD X δ a (.bl k)) (h2 : k = false → EvD X δ (.BoolOp .Or (b :: es) pos) (.bl m)) : EvD X δ (.BoolOp .Or (a :: b :: es) pos) (.bl (k || m)) := fun M0 M H0 σ H g =>
  tev_of (pe_or pe_tev pe_tev) (tev_mono (h M0 M H0 σ H g) fun x H1 ⟨e1, d, ed, q⟩ => by
    cases ed
    refine ⟨k, rep_bl.mp q, ?_⟩
    cases k with
    | true =>
      rw [if_pos rfl]
      exact ⟨e1, _, rfl, rep_bl.mpr rfl⟩
    | false =>
      rw [if_neg Bool.false_ne_true]
      exact tev_mono (h2 rfl M0 M H0 σ H1 (g.grow e1)) fun c H2 ⟨e2, d, ed, q⟩ => ⟨e1.trans e2, d, ed, q⟩)
theorem v_not {k : Bool} (h : EvD X δ a (.bl k)) : EvD X δ (.UnaryOp .Not a pos) (.bl (!k)) := fun M0 M H0 σ H g =>
  tev_of (pe_not pe_tev) (tev_mono (h M0 M H0 σ H g) fun x H1 ⟨e1, d, ed, q⟩ => by
    cases ed
    exact ⟨k, rep_bl.mp q, e1, _, rfl, rep_bl.mpr rfl⟩)
theorem v_ifExp {k : Bool} (h : EvT X δ c k) (h1 : k = true → EvE X δ a R) (h2 : k = false → EvE X δ b R) : EvE X δ (.IfExp c a b pos) R := fun M0 M H0 σ H g =>
  tev_of (pe_ifExp pt_tet pe_tev pe_tev) (tet_mono (h M0 M H0 σ H g) fun c H1 ⟨e1, ec⟩ => by
    subst ec
    cases c with
    | true =>
      rw [if_pos rfl]
      exact tev_mono (h1 rfl M0 M H0 σ H1 (g.grow e1)) fun c H2 ⟨e2, q⟩ => ⟨e1.trans e2, q⟩
    | false =>
      rw [if_neg Bool.false_ne_true]
      exact tev_mono (h2 rfl M0 M H0 σ H1 (g.grow e1)) fun c H2 ⟨e2, q⟩ => ⟨e1.trans e2, q⟩)
theorem v_isN {j pos'} (h : EvE X δ a Ra) (k : Bool) (hk : ∀ d M H v, Ra d → rep X.K d v (hid M H) → decide (v = V.non) = k) : EvD X δ (.Compare a [.Is] [.Constant .none j pos'] pos) (.bl k) := fun M0 M H0 σ H g =>
  tev_of (pe_cmp (pc_isN pe_tev) (nobehind _ (by decide) (by decide))) (tev_mono (h M0 M H0 σ H g) fun x H1 ⟨e1, d, rd, q⟩ => ⟨e1, _, rfl, rep_bl.mpr (by rw [hk d M H1 x rd q])⟩)
theorem t_isN {j pos'} (h : EvE X δ a Ra) (k : Bool) (hk : ∀ d M H v, Ra d → rep X.K d v (hid M H) → decide (v = V.non) = k) : EvT X δ (.Compare a [.Is] [.Constant .none j pos'] pos) k := fun M0 M H0 σ H g =>
  tet_of (pt_cmp (pc_isN pe_tev) (nobehind _ (by decide) (by decide))) (tev_mono (h M0 M H0 σ H g) fun x H1 ⟨e1, d, rd, q⟩ => ⟨k, by rw [hk d M H1 x rd q], e1, rfl⟩)
theorem t_notN {j pos'} (h : EvE X δ a Ra) (k : Bool) (hk : ∀ d M H v, Ra d → rep X.K d v (hid M H) → decide (v = V.non) = k) : EvT X δ (.Compare a [.IsNot] [.Constant .none j pos'] pos) (!k) := fun M0 M H0 σ H g =>
  tet_of (pt_cmp (pc_notN pe_tev) (nobehind _ (by decide) (by decide))) (tev_mono (h M0 M H0 σ H g) fun x H1 ⟨e1, d, rd, q⟩ => ⟨!k, by rw [hk d M H1 x rd q], e1, rfl⟩)

/-! ### arguments, displays -/
theorem a_nil : EvA X δ [] (are_ []) := fun M0 M H0 σ H g => tea_of pa_nil ⟨Ex.rfl, [], rfl, reps_nil.mpr rfl⟩
theorem a_cons (h : EvE X δ e R) (h2 : EvA X δ es Rs) (hs : starEach (e :: es) X.env = (false, eval e X.env) :: starEach es X.env := by rfl) : EvA X δ (e :: es) (fun ds => ∃ d r, ds = d :: r ∧ R d ∧ Rs r) := fun M0 M H0 σ H g =>
  tea_of (pa_cons pe_tev pa_tea hs) (tev_mono (h M0 M H0 σ H g) fun x H1 ⟨e1, d, rd, q⟩ => tea_mono (h2 M0 M H0 σ H1 (g.grow e1)) fun xs H2 ⟨e2, ds, rs, q2⟩ => ⟨e1.trans e2, d :: ds, ⟨d, ds, rfl, rd, rs⟩, reps_mk (rep_mono (hid_mono e2) q) q2⟩)
theorem EvA.mono {Rs' : List Dt → Prop} (h : EvA X δ es Rs) (k : ∀ ds, Rs ds → Rs' ds) : EvA X δ es Rs' := fun M0 M H0 σ H g => tea_mono (h M0 M H0 σ H g) fun xs H2 ⟨e, ds, r, q⟩ => ⟨e, ds, k ds r, q⟩
/-- all exactly known -/
theorem a_d {d : Dt} {ds : List Dt} (h : EvD X δ e d) (h2 : EvA X δ es (are_ ds)) (hs : starEach (e :: es) X.env = (false, eval e X.env) :: starEach es X.env := by rfl) : EvA X δ (e :: es) (are_ (d :: ds)) :=
  (a_cons h h2 hs).mono fun xs ⟨x, r, e1, e2, e3⟩ => by
    rw [e1, e2, e3]
theorem rep_new {M : List Addr} {H : Hp} {p : Addr} {xs : List V} {ds : List Dt} (dom : ∀ l ∈ M, H l ≠ none) (hp : H p = none) (r : reps X.K ds xs (hid M H)) : rep X.K (.tup ds) (.ref p) (hid M (upd H p (.tup xs))) := by
  refine rep_tup.mpr ⟨p, xs, rfl, .inl (.inl ?_), reps_mono (hid_mono (Ex.new hp)) r⟩
  rw [hid_at fun z => dom p z hp, upd_same]
theorem rep_newL {M : List Addr} {H : Hp} {p : Addr} {xs : List V} {ds : List Dt} (dom : ∀ l ∈ M, H l ≠ none) (hp : H p = none) (r : reps X.K ds xs (hid M H)) : rep X.K (.lst ds) (.ref p) (hid M (upd H p (.lst xs))) := by
  refine rep_lst.mpr ⟨p, xs, rfl, ?_, reps_mono (hid_mono (Ex.new hp)) r⟩
  rw [hid_at fun z => dom p z hp, upd_same]
theorem v_tup {x1} (h : EvA X δ es Rs) (hl : ∀ ds, Rs ds → ds.length ≤ 1000) (k : ∀ ds, Rs ds → R (.tup ds)) : EvE X δ (.Tuple es x1 pos) R := fun M0 M H0 σ H g =>
  tev_of (pe_tup pa_tea) (tea_mono (h M0 M H0 σ H g) fun xs H1 ⟨e1, ds, rs, q⟩ => ⟨by
    rw [← reps_len q]
    exact Nat.le_trans (hl ds rs) (by decide), fun p hp => ⟨e1.trans (Ex.new hp), _, k ds rs, rep_new (g.grow e1).dom hp q⟩⟩)
theorem v_tupD {x1} {ds : List Dt} (h : EvA X δ es (are_ ds)) (hl : ds.length ≤ 1000 := by first | decide | (simp only [List.length_cons, List.length_nil]; omega)) : EvD X δ (.Tuple es x1 pos) (.tup ds) := v_tup h (fun _ e => e ▸ hl) fun _ e => by rw [e]
theorem l_lst {ds : List Dt} (h : EvA X δ es (are_ ds)) (hl : ds.length ≤ 1000 := by first | decide | (simp only [List.length_cons, List.length_nil]; omega)) : EvL X δ (.List es pos) ds := fun M0 M H0 σ H g =>
  tev_of (pe_lst pa_tea) (tea_mono (h M0 M H0 σ H g) fun xs H1 ⟨e1, ds', rs, q⟩ => by
    cases rs
    exact ⟨by rw [← reps_len q]; exact Nat.le_trans hl (by decide), fun p hp => ⟨p, xs, H1, rfl, e1, hp, rfl, q⟩⟩)
theorem v_lst (h : EvA X δ es Rs) (hl : ∀ ds, Rs ds → ds.length ≤ 1000) (k : ∀ ds, Rs ds → R (.lst ds)) : EvE X δ (.List es pos) R := fun M0 M H0 σ H g =>
  tev_of (pe_lst pa_tea) (tea_mono (h M0 M H0 σ H g) fun xs H1 ⟨e1, ds, rs, q⟩ => ⟨by
    rw [← reps_len q]
    exact Nat.le_trans (hl ds rs) (by decide), fun p hp => ⟨e1.trans (Ex.new hp), _, k ds rs, rep_newL (g.grow e1).dom hp q⟩⟩)
theorem v_L {ds : List Dt} (h : EvL X δ e ds) : EvD X δ e (.lst ds) := fun M0 M H0 σ H g => tev_mono (h M0 M H0 σ H g) fun v H2 ⟨l, xs, H1, ev, e1, hn, eh, q⟩ => by
  subst ev eh
  exact ⟨e1.trans (Ex.new hn), _, rfl, rep_newL (g.grow e1).dom hn q⟩

/-! ### calls of built-in functions and types, by rules on values -/
variable {x : Str} {p : Pos}
theorem v_callB {id : String} {r : List V → Hp → VK → Prop} (hc : CallR X (.builtin id) r) (hm : X.mg x = none) (hv : bootBuiltins x = some (.builtin id)) (ha : EvA X δ (e :: es) Rs) (h : ∀ ds, Rs ds → CallD X r ds R) (hg : Gl X x := by first | rfl | exact Cg.gl (by assumption) rfl)
    (hn : x ≠ "__name__" := by decide) (hdb : (x == ("__debug__" : Str)) = false := by decide) (he : starEach (e :: es) X.env = (false, eval e X.env) :: starEach es X.env := by rfl) (hpl : (backTo pos (starEach es X.env)).any (·.1) = false := by rfl) :
    EvE X δ (.Call (.Name x p) (e :: es) [] pos) R := fun M0 M H0 σ H g =>
  tev_of (pe_callB (call_up hc) hg hm hv pa_tea hn hdb he hpl) (tea_mono (ha M0 M H0 σ H g) fun xs H1 ⟨e1, ds, rs, q⟩ => ⟨_, h ds rs M H1 xs (g.grow e1).dom q, fun v H2 ⟨e2, q⟩ => ⟨e1.trans e2, q⟩⟩)
theorem v_callTy {T : String} {r : List V → Hp → VK → Prop} (hc : CallR X (.type T) r) (hm : X.mg x = none) (hv : bootBuiltins x = some (.type T)) (ha : EvA X δ (e :: es) Rs) (h : ∀ ds, Rs ds → CallD X r ds R) (hg : Gl X x := by first | rfl | exact Cg.gl (by assumption) rfl)
    (hn : x ≠ "__name__" := by decide) (hdb : (x == ("__debug__" : Str)) = false := by decide) (he : starEach (e :: es) X.env = (false, eval e X.env) :: starEach es X.env := by rfl) (hpl : (backTo pos (starEach es X.env)).any (·.1) = false := by rfl) :
    EvE X δ (.Call (.Name x p) (e :: es) [] pos) R := fun M0 M H0 σ H g =>
  tev_of (pe_callTy (call_up hc) hg hm hv pa_tea hn hdb he hpl) (tea_mono (ha M0 M H0 σ H g) fun xs H1 ⟨e1, ds, rs, q⟩ => ⟨_, h ds rs M H1 xs (g.grow e1).dom q, fun v H2 ⟨e2, q⟩ => ⟨e1.trans e2, q⟩⟩)
/-- a subscript by a rule on values -/
theorem v_ix {r : R2} (hr : IxR X r) (ha : EvE X δ a Ra) (hb : EvE X δ b Rb) (h : ∀ dx dy, Ra dx → Rb dy → OpD X r dx dy R) (hs : PlainIx b := by intro _ _; rfl) : EvE X δ (.Subscript a b pos) R := fun M0 M H0 σ H g =>
  tev_of (pe_ix (ix_up hr) pe_tev pe_tev hs) (ev2 ha hb g fun x y dx dy H2 e r1 r2 q1 q2 g2 => ⟨_, h dx dy r1 r2 M H2 x y g2.dom q1 q2, fun v H3 ⟨e3, q⟩ => ⟨e.trans e3, q⟩⟩)
end
end DL

namespace DL
open PySem PySem.Spec PyProof.Rows L2

section
variable {X : Cx} {δ : List Sl} {a b c e : Expr} {es : List Expr} {pos : Pos} {Ra Rb Rc R R' : Dt → Prop} {Rs : List Dt → Prop} {i j : Int} {s t : Str}
/-! ### integers -/
theorem od_I0 {g : Int → Int → V} {d : Dt} (h : ∀ H, rep X.K d (g i j) H) : OpD X (rI0 g) (.int i) (.int j) (is_ d) := fun M H vx vy _ rx ry => ⟨i, j, rep_int.mp rx, rep_int.mp ry, Ex.rfl, d, rfl, h _⟩
theorem od_I {C : Int → Int → Prop} {g : Int → Int → V} {d : Dt} (hc : C i j) (h : ∀ H, rep X.K d (g i j) H) : OpD X (rI C g) (.int i) (.int j) (is_ d) := fun M H vx vy _ rx ry => ⟨i, j, rep_int.mp rx, rep_int.mp ry, hc, Ex.rfl, d, rfl, h _⟩
theorem ud_I {g : Int → V} {d : Dt} (h : ∀ H, rep X.K d (g i) H) : UnD X (rU g) (.int i) (is_ d) := fun M H vx _ rx => ⟨i, rep_int.mp rx, Ex.rfl, d, rfl, h _⟩
theorem ri {k : Int} {K : PySem.W.Frag} (H : Hp) : rep K (.int k) (.int k) H := rep_int.mpr rfl
theorem rb {k : Bool} {K : PySem.W.Frag} (H : Hp) : rep K (.bl k) (.bl k) H := rep_bl.mpr rfl
theorem rs {k : Str} {K : PySem.W.Frag} (H : Hp) : rep K (.str k) (.str k) H := rep_str.mpr rfl
theorem d2 {r : R2} {x y : Dt} {R : Dt → Prop} (h : OpD X r x y R) : ∀ dx dy, is_ x dx → is_ y dy → OpD X r dx dy R := fun _ _ e1 e2 => e1 ▸ e2 ▸ h
theorem d1 {r : V → Hp → VK → Prop} {x : Dt} {R : Dt → Prop} (h : UnD X r x R) : ∀ dx, is_ x dx → UnD X r dx R := fun _ e1 => e1 ▸ h
theorem v_add (ha : EvD X δ a (.int i)) (hb : EvD X δ b (.int j)) : EvD X δ (.BinOp a .Add b pos) (.int (i + j)) := v_op op_add ha hb (d2 (od_I0 ri))
theorem v_sub (ha : EvD X δ a (.int i)) (hb : EvD X δ b (.int j)) : EvD X δ (.BinOp a .Sub b pos) (.int (i - j)) := v_op op_sub ha hb (d2 (od_I0 ri))
theorem v_mul (hc : (-(2 ^ 64) < i ∧ i < 2 ^ 64) ∨ (-(2 ^ 64) < j ∧ j < 2 ^ 64)) (ha : EvD X δ a (.int i)) (hb : EvD X δ b (.int j)) : EvD X δ (.BinOp a .Mult b pos) (.int (i * j)) := v_op op_mul ha hb (d2 (od_I hc ri))
theorem v_mulW (hc : CMulW i j) (ha : EvD X δ a (.int i)) (hb : EvD X δ b (.int j)) : EvD X δ (.BinOp a .Mult b pos) (.int (i * j)) := v_op op_mulW ha hb (d2 (od_I hc ri))
theorem v_mod (hc : 0 < j) (ha : EvD X δ a (.int i)) (hb : EvD X δ b (.int j)) : EvD X δ (.BinOp a .Mod b pos) (.int (i % j)) := v_op op_mod ha hb (d2 (od_I hc ri))
theorem v_fdiv (hc : 0 < j ∧ j < 1073741824) (ha : EvD X δ a (.int i)) (hb : EvD X δ b (.int j)) : EvD X δ (.BinOp a .FloorDiv b pos) (.int (i / j)) := v_op op_fdiv ha hb (d2 (od_I hc ri))
theorem v_pow (hc : 0 ≤ j ∧ j ≤ 1000000 ∧ i.natAbs < 2 ^ 64) (ha : EvD X δ a (.int i)) (hb : EvD X δ b (.int j)) : EvD X δ (.BinOp a .Pow b pos) (.int (i ^ j.toNat)) := v_op op_pow ha hb (d2 (od_I hc ri))
theorem v_neg (ha : EvD X δ a (.int i)) : EvD X δ (.UnaryOp .USub a pos) (.int (-i)) := v_un un_neg ha (d1 (ud_I ri))
/-- with a value of which only a range is known -/
theorem v_addN (ha : EvE X δ a Ra) (hb : EvE X δ b Rb) (h : ∀ x y, Ra x → Rb y → ∃ i j, x = .int i ∧ y = .int j ∧ R (.int (i + j))) : EvE X δ (.BinOp a .Add b pos) R := v_op op_add ha hb fun dx dy r1 r2 M H vx vy _ q1 q2 => by
  obtain ⟨i, j, rfl, rfl, hr⟩ := h dx dy r1 r2
  exact ⟨i, j, rep_int.mp q1, rep_int.mp q2, Ex.rfl, _, hr, ri _⟩
theorem v_subN (ha : EvE X δ a Ra) (hb : EvE X δ b Rb) (h : ∀ x y, Ra x → Rb y → ∃ i j, x = .int i ∧ y = .int j ∧ R (.int (i - j))) : EvE X δ (.BinOp a .Sub b pos) R := v_op op_sub ha hb fun dx dy r1 r2 M H vx vy _ q1 q2 => by
  obtain ⟨i, j, rfl, rfl, hr⟩ := h dx dy r1 r2
  exact ⟨i, j, rep_int.mp q1, rep_int.mp q2, Ex.rfl, _, hr, ri _⟩
/-! comparisons of integers, of texts: values and tests -/
theorem v_lt (ha : EvD X δ a (.int i)) (hb : EvD X δ b (.int j)) : EvD X δ (.Compare a [.Lt] [b] pos) (.bl (decide (i < j))) := v_cmp op_lt ha hb (d2 (od_I0 rb)) (nomark _)
theorem v_le (ha : EvD X δ a (.int i)) (hb : EvD X δ b (.int j)) : EvD X δ (.Compare a [.LtE] [b] pos) (.bl (decide (i ≤ j))) := v_cmp op_le ha hb (d2 (od_I0 rb)) (nomark _)
theorem v_gt (ha : EvD X δ a (.int i)) (hb : EvD X δ b (.int j)) : EvD X δ (.Compare a [.Gt] [b] pos) (.bl (decide (j < i))) := v_cmp op_gt ha hb (d2 (od_I0 rb)) (nomark _)
theorem v_ge (ha : EvD X δ a (.int i)) (hb : EvD X δ b (.int j)) : EvD X δ (.Compare a [.GtE] [b] pos) (.bl (decide (j ≤ i))) := v_cmp op_ge ha hb (d2 (od_I0 rb)) (nomark _)
theorem t_lt (ha : EvD X δ a (.int i)) (hb : EvD X δ b (.int j)) : EvT X δ (.Compare a [.Lt] [b] pos) (decide (i < j)) := t_cmp op_lt ha hb (d2 (od_I0 rb)) (nomark _)
theorem t_le (ha : EvD X δ a (.int i)) (hb : EvD X δ b (.int j)) : EvT X δ (.Compare a [.LtE] [b] pos) (decide (i ≤ j)) := t_cmp op_le ha hb (d2 (od_I0 rb)) (nomark _)
theorem t_gt (ha : EvD X δ a (.int i)) (hb : EvD X δ b (.int j)) : EvT X δ (.Compare a [.Gt] [b] pos) (decide (j < i)) := t_cmp op_gt ha hb (d2 (od_I0 rb)) (nomark _)
theorem t_ge (ha : EvD X δ a (.int i)) (hb : EvD X δ b (.int j)) : EvT X δ (.Compare a [.GtE] [b] pos) (decide (j ≤ i)) := t_cmp op_ge ha hb (d2 (od_I0 rb)) (nomark _)
theorem od_eqI : OpD X rEq (.int i) (.int j) (is_ (.bl (decide (i = j)))) := fun M H vx vy _ rx ry => by
  rw [rep_int.mp rx, rep_int.mp ry]
  exact ⟨rfl, Ex.rfl, _, rfl, rep_bl.mpr (by rw [dec_int, Bool.beq_eq_decide_eq])⟩
theorem od_neI : OpD X rNe (.int i) (.int j) (is_ (.bl (!decide (i = j)))) := fun M H vx vy _ rx ry => by
  rw [rep_int.mp rx, rep_int.mp ry]
  exact ⟨rfl, Ex.rfl, _, rfl, rep_bl.mpr (by rw [dec_int, Bool.beq_eq_decide_eq])⟩
theorem od_eqS : OpD X rEq (.str s) (.str t) (is_ (.bl (decide (s = t)))) := fun M H vx vy _ rx ry => by
  rw [rep_str.mp rx, rep_str.mp ry]
  exact ⟨rfl, Ex.rfl, _, rfl, rep_bl.mpr (by congr 1; simp)⟩
theorem od_neS : OpD X rNe (.str s) (.str t) (is_ (.bl (!decide (s = t)))) := fun M H vx vy _ rx ry => by
  rw [rep_str.mp rx, rep_str.mp ry]
  exact ⟨rfl, Ex.rfl, _, rfl, rep_bl.mpr (by congr 2; simp)⟩
theorem v_eqI (ha : EvD X δ a (.int i)) (hb : EvD X δ b (.int j)) : EvD X δ (.Compare a [.Eq] [b] pos) (.bl (decide (i = j))) := v_cmp op_eq ha hb (d2 od_eqI) (nomark _)
theorem v_neI (ha : EvD X δ a (.int i)) (hb : EvD X δ b (.int j)) : EvD X δ (.Compare a [.NotEq] [b] pos) (.bl (!decide (i = j))) := v_cmp op_ne ha hb (d2 od_neI) (nomark _)
theorem t_eqI (ha : EvD X δ a (.int i)) (hb : EvD X δ b (.int j)) : EvT X δ (.Compare a [.Eq] [b] pos) (decide (i = j)) := t_cmp op_eq ha hb (d2 od_eqI) (nomark _)
theorem t_neI (ha : EvD X δ a (.int i)) (hb : EvD X δ b (.int j)) : EvT X δ (.Compare a [.NotEq] [b] pos) (!decide (i = j)) := t_cmp op_ne ha hb (d2 od_neI) (nomark _)
theorem v_eqS (ha : EvD X δ a (.str s)) (hb : EvD X δ b (.str t)) : EvD X δ (.Compare a [.Eq] [b] pos) (.bl (decide (s = t))) := v_cmp op_eq ha hb (d2 od_eqS) (nomark _)
theorem v_neS (ha : EvD X δ a (.str s)) (hb : EvD X δ b (.str t)) : EvD X δ (.Compare a [.NotEq] [b] pos) (.bl (!decide (s = t))) := v_cmp op_ne ha hb (d2 od_neS) (nomark _)
theorem t_eqS (ha : EvD X δ a (.str s)) (hb : EvD X δ b (.str t)) : EvT X δ (.Compare a [.Eq] [b] pos) (decide (s = t)) := t_cmp op_eq ha hb (d2 od_eqS) (nomark _)
theorem t_neS (ha : EvD X δ a (.str s)) (hb : EvD X δ b (.str t)) : EvT X δ (.Compare a [.NotEq] [b] pos) (!decide (s = t)) := t_cmp op_ne ha hb (d2 od_neS) (nomark _)
/-- a chain of two comparisons of integers -/
theorem ev3 {op op' : CmpOp} {f g : Int → Int → Bool} {k : Int} (ha : EvD X δ a (.int i)) (hb : EvD X δ b (.int j)) (hc : EvD X δ c (.int k)) {M0 M : List Addr} {H0 : Hp} {σ : L2.St} {H : Hp} (G : Sg X.K M0 M H0 δ σ H) {Q : VK}
    (q : ∀ H2, Ex H H2 → Q (.bl (f i j && g j k)) H2) : tChain (rI0 fun i j => .bl (f i j)) (rI0 fun i j => .bl (g i j)) (tev X a) (tev X b) (tev X c) σ H Q :=
  ev2 ha hb G fun x y dx dy H2 e r1 r2 q1 q2 g2 => by
    cases r1
    cases r2
    refine ⟨i, j, rep_int.mp q1, rep_int.mp q2, f i j, rfl, ?_⟩
    cases h : f i j with
    | true =>
      rw [if_pos rfl]
      refine tev_mono (hc M0 M H0 σ H2 g2) fun z H3 ⟨e3, d, ed, q3⟩ => ?_
      cases ed
      refine ⟨j, k, rep_int.mp q2, rep_int.mp q3, ?_⟩
      have := q H3 (e.trans e3)
      rw [h] at this
      exact this
    | false =>
      rw [if_neg Bool.false_ne_true]
      have := q H2 e
      rw [h] at this
      exact this
theorem v_chain {op op' : CmpOp} {f g : Int → Int → Bool} {k : Int} (ho : OpR X (compareOp op) (rI0 fun i j => .bl (f i j))) (ho' : OpR X (compareOp op') (rI0 fun i j => .bl (g i j))) (ha : EvD X δ a (.int i)) (hb : EvD X δ b (.int j)) (hc : EvD X δ c (.int k))
    (hm : lastMarks [op, op'] [b, c] = false := by with_unfolding_all rfl) : EvD X δ (.Compare a [op, op'] [b, c] pos) (.bl (f i j && g j k)) := fun M0 M H0 σ H G =>
  tev_of (pe_chain ho ho' pe_tev pe_tev pe_tev hm) (ev3 (op := op) (op' := op') ha hb hc G fun H2 e => ⟨e, _, rfl, rb _⟩)
theorem t_chain {op op' : CmpOp} {f g : Int → Int → Bool} {k : Int} (ho : OpR X (compareOp op) (rI0 fun i j => .bl (f i j))) (ho' : OpR X (compareOp op') (rI0 fun i j => .bl (g i j))) (ha : EvD X δ a (.int i)) (hb : EvD X δ b (.int j)) (hc : EvD X δ c (.int k))
    (hm : lastMarks [op, op'] [b, c] = false := by with_unfolding_all rfl) : EvT X δ (.Compare a [op, op'] [b, c] pos) (f i j && g j k) := fun M0 M H0 σ H G =>
  tet_of (pt_chain ho ho' pe_tev pe_tev pe_tev hm) (ev3 (op := op) (op' := op') ha hb hc G fun H2 e => ⟨_, rfl, e, rfl⟩)

/-! ### data that == compares: numbers, texts, sequences of them -/
mutual
def pdOf : Dt → Option PyData
  | .non => some .none
  | .bl b => some (.bool b)
  | .int i => some (.int i)
  | .str s => some (.str s)
  | .tup ds => (pdsOf ds).map .tuple
  | .lst ds => (pdsOf ds).map .list
  | _ => none
def pdsOf : List Dt → Option (List PyData)
  | [] => some []
  | d :: ds => match pdOf d, pdsOf ds with
    | some x, some xs => some (x :: xs)
    | _, _ => none
end
mutual
theorem dp_of {K : PySem.W.Frag} {H : Hp} : ∀ (d : Dt) (v : V) (x : PyData), pdOf d = some x → rep K d v H → Dp K H v x
  | .non, v, x, h, r => by
    simp only [pdOf, Option.some.injEq] at h
    rw [rep_non.mp r, ← h]
    exact .non
  | .bl b, v, x, h, r => by
    simp only [pdOf, Option.some.injEq] at h
    rw [rep_bl.mp r, ← h]
    exact .bl b
  | .int i, v, x, h, r => by
    simp only [pdOf, Option.some.injEq] at h
    rw [rep_int.mp r, ← h]
    exact .int i
  | .str s, v, x, h, r => by
    simp only [pdOf, Option.some.injEq] at h
    rw [rep_str.mp r, ← h]
    exact .str s
  | .tup ds, v, x, h, r => by
    simp only [pdOf, Option.map_eq_some_iff] at h
    obtain ⟨xs, h1, h2⟩ := h
    obtain ⟨a, ys, rfl, h3, h4⟩ := rep_tup.mp r
    rw [← h2]
    exact .tup h3 (dps_of ds ys xs h1 h4)
  | .lst ds, v, x, h, r => by
    simp only [pdOf, Option.map_eq_some_iff] at h
    obtain ⟨xs, h1, h2⟩ := h
    obtain ⟨a, ys, rfl, h3, h4⟩ := rep_lst.mp r
    rw [← h2]
    exact .lst (SqL.of h3) (dps_of ds ys xs h1 h4)
  | .poly p r', v, x, h, r => by simp [pdOf] at h
  | .ent r', v, x, h, r => by simp [pdOf] at h
  | .curve p f, v, x, h, r => by simp [pdOf] at h
  | .fn p f a b c, v, x, h, r => by simp [pdOf] at h
  | .round p rows last len, v, x, h, r => by simp [pdOf] at h
  | .steps p f P Q S, v, x, h, r => by simp [pdOf] at h
  | .dice, v, x, h, r => by simp [pdOf] at h
  | .val w, v, x, h, r => by simp [pdOf] at h
  | .scr ns, v, x, h, r => by simp [pdOf] at h
theorem dps_of {K : PySem.W.Frag} {H : Hp} : ∀ (ds : List Dt) (vs : List V) (xs : List PyData), pdsOf ds = some xs → reps K ds vs H → DpAll K H vs xs
  | [], vs, xs, h, r => by
    simp only [pdsOf, Option.some.injEq] at h
    rw [reps_nil.mp r, ← h]
    exact .nil
  | d :: ds, vs, xs, h, r => by
    obtain ⟨v, ws, rfl, h2, h3⟩ := reps_cons.mp r
    simp only [pdsOf] at h
    split at h
    · rename_i y ys e1 e2
      simp only [Option.some.injEq] at h
      rw [← h]
      exact .cons (dp_of d v y e1 h2) (dps_of ds ws ys e2 h3)
    · cases h
end
theorem Dp_mono {K : PySem.W.Frag} {H H' : Hp} {d : Dt} {v : V} {x : PyData} (e : Ex H H') (h : pdOf d = some x) (r : rep K d v H) : Dp K H' v x := dp_of d v x h (rep_mono e r)
theorem od_eqP {dx dy : Dt} {x y : PyData} (hx : pdOf dx = some x) (hy : pdOf dy = some y) (sx : SeqAt.shaped x = true) (sy : SeqAt.shaped y = true) : OpD X (rEqD X.K) dx dy (is_ (.bl (PyData.eqv x y))) := fun M H vx vy _ rx ry =>
  ⟨x, y, dp_of dx vx x hx (rep_mono hid_ex rx), dp_of dy vy y hy (rep_mono hid_ex ry), sx, sy, Ex.rfl, _, rfl, rb _⟩
theorem od_neP {dx dy : Dt} {x y : PyData} (hx : pdOf dx = some x) (hy : pdOf dy = some y) (sx : SeqAt.shaped x = true) (sy : SeqAt.shaped y = true) : OpD X (rNeD X.K) dx dy (is_ (.bl (!PyData.eqv x y))) := fun M H vx vy _ rx ry =>
  ⟨x, y, dp_of dx vx x hx (rep_mono hid_ex rx), dp_of dy vy y hy (rep_mono hid_ex ry), sx, sy, Ex.rfl, _, rfl, rb _⟩
theorem pds_row : ∀ r : List Int, pdsOf (rowD r) = some (r.map PyData.int)
  | [] => rfl
  | i :: r => by
    show pdsOf (.int i :: rowD r) = _
    simp only [pdsOf, pdOf, pds_row r, List.map_cons]
theorem can_row : ∀ r : List Int, PyData.canLayAll0 (r.map PyData.int) = true
  | [] => by simp [PyData.canLayAll0]
  | i :: r => by
    rw [List.map_cons]
    simp only [PyData.canLayAll0, PyData.canLay0, can_row r, Bool.and_self]
theorem dep_row : ∀ r : List Int, PyData.depthAll (r.map PyData.int) = 0
  | [] => by simp [PyData.depthAll]
  | i :: r => by
    rw [List.map_cons]
    simp only [PyData.depthAll, PyData.depth, dep_row r, Nat.max_self]
theorem sh_row (r : List Int) : SeqAt.shaped (.tuple (r.map PyData.int)) = true := by
  unfold SeqAt.shaped
  simp only [PyData.canLay0, PyData.depth, can_row, dep_row]
  decide
theorem sh_rowL (r : List Int) : SeqAt.shaped (.list (r.map PyData.int)) = true := by
  unfold SeqAt.shaped
  simp only [PyData.canLay0, PyData.depth, can_row, dep_row]
  decide
theorem eqv_row : ∀ r s : List Int, PyData.eqvAll (r.map PyData.int) (s.map PyData.int) = decide (r = s)
  | [], [] => by simp [PyData.eqvAll]
  | [], j :: s => by simp [PyData.eqvAll]
  | i :: r, [] => by simp [PyData.eqvAll]
  | i :: r, j :: s => by
    rw [List.map_cons, List.map_cons]
    simp only [PyData.eqvAll, PyData.eqv, eqv_row r s]
    by_cases h : i = j
    · by_cases h2 : r = s
      · simp [h, h2]
      · simp [h, h2]
    · simp [h]
theorem pd_tup (r : List Int) : pdOf (.tup (rowD r)) = some (.tuple (r.map PyData.int)) := by simp only [pdOf, pds_row, Option.map_some]
theorem pd_lst (r : List Int) : pdOf (.lst (rowD r)) = some (.list (r.map PyData.int)) := by simp only [pdOf, pds_row, Option.map_some]
variable {r1 r2 : List Int}
theorem od_eqT : OpD X (rEqD X.K) (.tup (rowD r1)) (.tup (rowD r2)) (is_ (.bl (decide (r1 = r2)))) := by
  have h := od_eqP (X := X) (pd_tup r1) (pd_tup r2) (sh_row r1) (sh_row r2)
  simp only [PyData.eqv, eqv_row] at h
  exact h
theorem od_neT : OpD X (rNeD X.K) (.tup (rowD r1)) (.tup (rowD r2)) (is_ (.bl (!decide (r1 = r2)))) := by
  have h := od_neP (X := X) (pd_tup r1) (pd_tup r2) (sh_row r1) (sh_row r2)
  simp only [PyData.eqv, eqv_row] at h
  exact h
theorem od_neL : OpD X (rNeD X.K) (.lst (rowD r1)) (.lst (rowD r2)) (is_ (.bl (!decide (r1 = r2)))) := by
  have h := od_neP (X := X) (pd_lst r1) (pd_lst r2) (sh_rowL r1) (sh_rowL r2)
  simp only [PyData.eqv, eqv_row] at h
  exact h
variable {P : Program} {w : World} {K : PySem.W.Frag} {mg : Str → Option Value} {base : Heap} {k : Nat} {N : List Str} {sc : Scope}
theorem Cg.u64 (c : Cg P w K mg base k N sc X) : X.A.units + 64 < cLine := c.room.units
theorem v_eqT (c : Cg P w K mg base k N sc X) (ha : EvD X δ a (.tup (rowD r1))) (hb : EvD X δ b (.tup (rowD r2))) : EvD X δ (.Compare a [.Eq] [b] pos) (.bl (decide (r1 = r2))) := v_cmp (op_eqD c.u64) ha hb (d2 od_eqT) (nomark _)
theorem t_eqT (c : Cg P w K mg base k N sc X) (ha : EvD X δ a (.tup (rowD r1))) (hb : EvD X δ b (.tup (rowD r2))) : EvT X δ (.Compare a [.Eq] [b] pos) (decide (r1 = r2)) := t_cmp (op_eqD c.u64) ha hb (d2 od_eqT) (nomark _)
theorem v_neT (c : Cg P w K mg base k N sc X) (ha : EvD X δ a (.tup (rowD r1))) (hb : EvD X δ b (.tup (rowD r2))) : EvD X δ (.Compare a [.NotEq] [b] pos) (.bl (!decide (r1 = r2))) := v_cmp (op_neD c.u64) ha hb (d2 od_neT) (nomark _)
theorem t_neT (c : Cg P w K mg base k N sc X) (ha : EvD X δ a (.tup (rowD r1))) (hb : EvD X δ b (.tup (rowD r2))) : EvT X δ (.Compare a [.NotEq] [b] pos) (!decide (r1 = r2)) := t_cmp (op_neD c.u64) ha hb (d2 od_neT) (nomark _)
theorem t_neL (c : Cg P w K mg base k N sc X) (ha : EvD X δ a (.lst (rowD r1))) (hb : EvD X δ b (.lst (rowD r2))) : EvT X δ (.Compare a [.NotEq] [b] pos) (!decide (r1 = r2)) := t_cmp (op_neD c.u64) ha hb (d2 od_neL) (nomark _)

/-! ### calls of built-ins -/
variable {x : Str} {p : Pos} {ds : List Dt} {d : Dt}
theorem cd1 {r : List V → Hp → VK → Prop} {xs : List Dt} {R : Dt → Prop} (h : CallD X r xs R) : ∀ ds, are_ xs ds → CallD X r ds R := fun _ e => e ▸ h
theorem seq_of {K : PySem.W.Frag} {M : List Addr} {H : Hp} {v : V} (h : rep K (.lst ds) v (hid M H) ∨ rep K (.tup ds) v (hid M H)) : ∃ a xs, v = .ref a ∧ (SqL K H a xs ∨ SqT K H a xs) ∧ reps K ds xs (hid M H) := by
  rcases h with h | h
  · obtain ⟨a, xs, h1, h2, h3⟩ := rep_lst.mp h
    exact ⟨a, xs, h1, .inl (SqL.of (hid_ex _ _ h2)), h3⟩
  · obtain ⟨a, xs, h1, h2, h3⟩ := rep_tup.mp h
    exact ⟨a, xs, h1, .inr (hid_ex.t h2), h3⟩
/-- d is a sequence of ds -/
inductive Sq : Dt → List Dt → Prop where
  | l {ds : List Dt} : Sq (.lst ds) ds
  | t {ds : List Dt} : Sq (.tup ds) ds
  | s {ns : List Int} : Sq (.scr ns) (rowD ns)
theorem Sq.of (q : Sq d ds) {K : PySem.W.Frag} {M : List Addr} {H : Hp} {v : V} (h : rep K d v (hid M H)) : ∃ a xs, v = .ref a ∧ (SqL K H a xs ∨ SqT K H a xs) ∧ reps K ds xs (hid M H) := by
  cases q with
  | l => exact seq_of (.inl h)
  | t => exact seq_of (.inr h)
  | s =>
    obtain ⟨a, h1, h2⟩ := rep_scr.mp h
    exact ⟨a, _, h1, .inl (hid_ex.l h2), reps_int.mpr rfl⟩
theorem v_len (q : Sq d ds) (ha : EvD X δ e d) (hm : X.mg "len" = none := by first | assumption | exact Cg.bf (by assumption) (by assumption) rfl) (hg : Gl X "len" := by first | rfl | exact Cg.gl (by assumption) rfl) (he : starEach [e] X.env = (false, eval e X.env) :: starEach [] X.env := by rfl) (hpl : (backTo pos (starEach [] X.env)).any (·.1) = false := by rfl) :
    EvD X δ (.Call (.Name "len" p) [e] [] pos) (.int ds.length) :=
  v_callB call_len_seq hm boot_len (a_d ha a_nil he) (cd1 fun M H vs _ r => by
    obtain ⟨v, ys, rfl, r1, r2⟩ := reps_cons.mp r
    obtain ⟨a, xs, rfl, h1, h2⟩ := q.of r1
    rw [reps_nil.mp r2]
    exact ⟨a, xs, rfl, h1, Ex.rfl, _, rfl, rep_int.mpr (by rw [reps_len h2])⟩) hg (by decide) (by decide) he hpl
end
end DL

namespace DL
open PySem PySem.Spec PyProof.Rows L2

section
variable {X : Cx} {δ : List Sl} {a b c e : Expr} {es : List Expr} {pos : Pos} {Ra Rb Rc R R' : Dt → Prop} {Rs : List Dt → Prop} {i j : Int} {s t : Str} {x : Str} {p : Pos} {ds : List Dt} {d : Dt}
variable {P : Program} {w : World} {K : PySem.W.Frag} {mg : Str → Option Value} {base : Heap} {k : Nat} {N : List Str} {sc : Scope}
/-! ### more built-ins -/
theorem one_of {K : PySem.W.Frag} {d : Dt} {vs : List V} {H : Hp} (h : reps K [d] vs H) : ∃ v, vs = [v] ∧ rep K d v H := by
  obtain ⟨v, ys, rfl, r1, r2⟩ := reps_cons.mp h
  rw [reps_nil.mp r2]
  exact ⟨v, rfl, r1⟩
theorem two_of {K : PySem.W.Frag} {d d' : Dt} {vs : List V} {H : Hp} (h : reps K [d, d'] vs H) : ∃ v u, vs = [v, u] ∧ rep K d v H ∧ rep K d' u H := by
  obtain ⟨v, ys, rfl, r1, r2⟩ := reps_cons.mp h
  obtain ⟨u, rfl, r3⟩ := one_of r2
  exact ⟨v, u, rfl, r1, r3⟩
theorem v_abs (ha : EvD X δ e (.int i)) (hm : X.mg "abs" = none := by first | assumption | exact Cg.bf (by assumption) (by assumption) rfl) (hg : Gl X "abs" := by first | rfl | exact Cg.gl (by assumption) rfl) (he : starEach [e] X.env = (false, eval e X.env) :: starEach [] X.env := by rfl) (hpl : (backTo pos (starEach [] X.env)).any (·.1) = false := by rfl) :
    EvD X δ (.Call (.Name "abs" p) [e] [] pos) (.int (if i < 0 then -i else i)) :=
  v_callB call_abs hm (by decide +kernel) (a_d ha a_nil he) (cd1 fun M H vs _ r => by
    obtain ⟨v, rfl, r1⟩ := one_of r
    exact ⟨i, by rw [rep_int.mp r1], Ex.rfl, _, rfl, ri _⟩) hg (by decide) (by decide) he hpl
theorem v_max2 (c : Cg P w K mg base k N sc X) (ha : EvD X δ a (.int i)) (hb : EvD X δ b (.int j)) (hm : X.mg "max" = none := by first | assumption | exact Cg.bf (by assumption) (by assumption) rfl) (hg : Gl X "max" := by first | rfl | exact Cg.gl (by assumption) rfl) (he : starEach [a, b] X.env = (false, eval a X.env) :: starEach [b] X.env := by rfl)
    (he2 : starEach [b] X.env = (false, eval b X.env) :: starEach [] X.env := by rfl) (hpl : (backTo pos (starEach [b] X.env)).any (·.1) = false := by rfl) : EvD X δ (.Call (.Name "max" p) [a, b] [] pos) (.int (if j > i then j else i)) :=
  v_callB (call_max2 c.calm) hm (by decide +kernel) (a_d ha (a_d hb a_nil he2) he) (cd1 fun M H vs _ r => by
    obtain ⟨v, u, rfl, r1, r2⟩ := two_of r
    exact ⟨i, j, by rw [rep_int.mp r1, rep_int.mp r2], Ex.rfl, _, rfl, ri _⟩) hg (by decide) (by decide) he hpl
theorem v_min2 (c : Cg P w K mg base k N sc X) (ha : EvD X δ a (.int i)) (hb : EvD X δ b (.int j)) (hm : X.mg "min" = none := by first | assumption | exact Cg.bf (by assumption) (by assumption) rfl) (hg : Gl X "min" := by first | rfl | exact Cg.gl (by assumption) rfl) (he : starEach [a, b] X.env = (false, eval a X.env) :: starEach [b] X.env := by rfl)
    (he2 : starEach [b] X.env = (false, eval b X.env) :: starEach [] X.env := by rfl) (hpl : (backTo pos (starEach [b] X.env)).any (·.1) = false := by rfl) : EvD X δ (.Call (.Name "min" p) [a, b] [] pos) (.int (if j < i then j else i)) :=
  v_callB (call_min2 c.calm) hm (by decide +kernel) (a_d ha (a_d hb a_nil he2) he) (cd1 fun M H vs _ r => by
    obtain ⟨v, u, rfl, r1, r2⟩ := two_of r
    exact ⟨i, j, by rw [rep_int.mp r1, rep_int.mp r2], Ex.rfl, _, rfl, ri _⟩) hg (by decide) (by decide) he hpl
theorem v_intI (ha : EvE X δ e Ra) (h : ∀ d, Ra d → (∃ i, d = .int i) ∧ R d) (hm : X.mg "int" = none := by first | assumption | exact Cg.bf (by assumption) (by assumption) rfl) (hg : Gl X "int" := by first | rfl | exact Cg.gl (by assumption) rfl) (he : starEach [e] X.env = (false, eval e X.env) :: starEach [] X.env := by rfl) (hpl : (backTo pos (starEach [] X.env)).any (·.1) = false := by rfl) :
    EvE X δ (.Call (.Name "int" p) [e] [] pos) R :=
  v_callTy call_int1 hm (by decide +kernel) (a_cons ha a_nil he) (fun ds hd M H vs _ r => by
    obtain ⟨d, r', rfl, h1, rfl⟩ := hd
    obtain ⟨⟨i, rfl⟩, h2⟩ := h d h1
    obtain ⟨v, rfl, r1⟩ := one_of r
    exact .inl ⟨i, by rw [rep_int.mp r1], Ex.rfl, _, h2, ri _⟩) hg (by decide) (by decide) he hpl
theorem v_int1 (ha : EvD X δ e (.int i)) (hm : X.mg "int" = none := by first | assumption | exact Cg.bf (by assumption) (by assumption) rfl) (hg : Gl X "int" := by first | rfl | exact Cg.gl (by assumption) rfl) (he : starEach [e] X.env = (false, eval e X.env) :: starEach [] X.env := by rfl) (hpl : (backTo pos (starEach [] X.env)).any (·.1) = false := by rfl) :
    EvD X δ (.Call (.Name "int" p) [e] [] pos) (.int i) := v_intI ha (fun d e => ⟨⟨i, e⟩, e⟩) hm hg he hpl
theorem v_intB {q : Bool} (ha : EvD X δ e (.bl q)) (hm : X.mg "int" = none := by first | assumption | exact Cg.bf (by assumption) (by assumption) rfl) (hg : Gl X "int" := by first | rfl | exact Cg.gl (by assumption) rfl) (he : starEach [e] X.env = (false, eval e X.env) :: starEach [] X.env := by rfl) (hpl : (backTo pos (starEach [] X.env)).any (·.1) = false := by rfl) :
    EvD X δ (.Call (.Name "int" p) [e] [] pos) (.int (if q then 1 else 0)) :=
  v_callTy call_int1 hm (by decide +kernel) (a_d ha a_nil he) (cd1 fun M H vs _ r => by
    obtain ⟨v, rfl, r1⟩ := one_of r
    exact .inr ⟨q, by rw [rep_bl.mp r1], Ex.rfl, _, rfl, ri _⟩) hg (by decide) (by decide) he hpl
theorem v_strI (hl : i.natAbs.log2 < 1920) (ha : EvD X δ e (.int i)) (hm : X.mg "str" = none := by first | assumption | exact Cg.bf (by assumption) (by assumption) rfl) (hg : Gl X "str" := by first | rfl | exact Cg.gl (by assumption) rfl) (he : starEach [e] X.env = (false, eval e X.env) :: starEach [] X.env := by rfl) (hpl : (backTo pos (starEach [] X.env)).any (·.1) = false := by rfl) :
    EvD X δ (.Call (.Name "str" p) [e] [] pos) (.str (toString i)) :=
  v_callTy call_str_int hm (by decide +kernel) (a_d ha a_nil he) (cd1 fun M H vs _ r => by
    obtain ⟨v, rfl, r1⟩ := one_of r
    exact ⟨i, by rw [rep_int.mp r1], hl, Ex.rfl, _, rfl, rs _⟩) hg (by decide) (by decide) he hpl
/-- tuple(list or tuple) -/
theorem v_tuple (q : Sq d ds) (ha : EvD X δ e d) (hm : X.mg "tuple" = none := by first | assumption | exact Cg.bf (by assumption) (by assumption) rfl) (hg : Gl X "tuple" := by first | rfl | exact Cg.gl (by assumption) rfl) (he : starEach [e] X.env = (false, eval e X.env) :: starEach [] X.env := by rfl) (hpl : (backTo pos (starEach [] X.env)).any (·.1) = false := by rfl) :
    EvD X δ (.Call (.Name "tuple" p) [e] [] pos) (.tup ds) :=
  v_callTy call_tuple_of hm (by decide +kernel) (a_d ha a_nil he) (cd1 fun M H vs dom r => by
    obtain ⟨v, rfl, r1⟩ := one_of r
    cases q with
    | l =>
      obtain ⟨a, xs, rfl, h1, h2⟩ := rep_lst.mp r1
      exact ⟨a, xs, rfl, .inl ⟨SqL.of (hid_ex _ _ h1), fun l hl => ⟨Ex.new hl, _, rfl, rep_new dom hl h2⟩⟩⟩
    | s =>
      obtain ⟨a, rfl, h1⟩ := rep_scr.mp r1
      exact ⟨a, _, rfl, .inl ⟨hid_ex.l h1, fun l hl => ⟨Ex.new hl, _, rfl, rep_new dom hl (reps_int.mpr rfl)⟩⟩⟩
    | t =>
      obtain ⟨a, xs, rfl, h1, h2⟩ := rep_tup.mp r1
      exact ⟨a, xs, rfl, .inr ⟨hid_ex.t h1, Ex.rfl, _, rfl, r1⟩⟩) hg (by decide) (by decide) he hpl
/-- list(list or tuple): a new list -/
theorem l_list (q : Sq d ds) (ha : EvD X δ e d) (hm : X.mg "list" = none := by first | assumption | exact Cg.bf (by assumption) (by assumption) rfl) (hg : Gl X "list" := by first | rfl | exact Cg.gl (by assumption) rfl) (he : starEach [e] X.env = (false, eval e X.env) :: starEach [] X.env := by rfl) (hpl : (backTo pos (starEach [] X.env)).any (·.1) = false := by rfl) :
    EvL X δ (.Call (.Name "list" p) [e] [] pos) ds := fun M0 M H0 σ H g =>
  tev_of (pe_callTy call_list_of hg hm (by decide +kernel) pa_tea (by decide) (by decide) he hpl) (tea_mono (a_d ha a_nil he M0 M H0 σ H g) fun vs H1 ⟨e1, ds', rs, r⟩ => by
    cases rs
    obtain ⟨v, rfl, r1⟩ := one_of r
    obtain ⟨a, xs, rfl, h1, h2⟩ := q.of r1
    exact ⟨a, xs, rfl, h1, fun l hl => ⟨l, xs, H1, rfl, e1, hl, rfl, h2⟩⟩)
/-- sum of a list of integers, all of a list of truths -/
theorem rows_of {K : PySem.W.Frag} {v : V} {H : Hp} {r : List Int} (h : rep K (.lst (rowD r)) v H) : ∃ a, v = .ref a ∧ SqL K H a (r.map V.int) := by
  obtain ⟨a, xs, rfl, h1, h2⟩ := rep_lst.mp h
  rw [reps_int.mp h2] at h1
  exact ⟨a, rfl, SqL.of h1⟩
theorem v_sum {r : List Int} (c : Cg P w K mg base k N sc X) (ha : EvD X δ e (.lst (rowD r))) (hm : X.mg "sum" = none := by first | assumption | exact Cg.bf (by assumption) (by assumption) rfl) (hg : Gl X "sum" := by first | rfl | exact Cg.gl (by assumption) rfl) (he : starEach [e] X.env = (false, eval e X.env) :: starEach [] X.env := by rfl) (hpl : (backTo pos (starEach [] X.env)).any (·.1) = false := by rfl) :
    EvD X δ (.Call (.Name "sum" p) [e] [] pos) (.int r.sum) :=
  v_callB (cr_sum c.calm) hm (by decide +kernel) (a_d ha a_nil he) (cd1 fun M H vs dom q => by
    obtain ⟨v, rfl, r1⟩ := one_of q
    obtain ⟨a, rfl, h1⟩ := rows_of r1
    exact ⟨a, r, rfl, hid_ex.l h1, Ex.rfl, _, rfl, ri _⟩) hg (by decide) (by decide) he hpl
theorem reps_bl : ∀ {r : List Bool} {xs : List V} {H : Hp}, reps K (r.map Dt.bl) xs H ↔ xs = r.map V.bl
  | [], xs, H => by
    show reps K [] xs H ↔ _
    rw [reps_nil]
    rfl
  | i :: r, xs, H => by
    show reps K (.bl i :: r.map Dt.bl) xs H ↔ _
    rw [reps_cons]
    constructor
    · rintro ⟨x, ys, rfl, h1, h2⟩
      rw [rep_bl.mp h1, reps_bl.mp h2]
      rfl
    · intro h
      exact ⟨.bl i, r.map V.bl, h, rep_bl.mpr rfl, reps_bl.mpr rfl⟩
theorem v_all {r : List Bool} (c : Cg P w K mg base k N sc X) (ha : EvD X δ e (.lst (r.map Dt.bl))) (hm : X.mg "all" = none := by first | assumption | exact Cg.bf (by assumption) (by assumption) rfl) (hg : Gl X "all" := by first | rfl | exact Cg.gl (by assumption) rfl) (he : starEach [e] X.env = (false, eval e X.env) :: starEach [] X.env := by rfl) (hpl : (backTo pos (starEach [] X.env)).any (·.1) = false := by rfl) :
    EvD X δ (.Call (.Name "all" p) [e] [] pos) (.bl (r.all id)) :=
  v_callB (cr_all c.calm) hm (by decide +kernel) (a_d ha a_nil he) (cd1 fun M H vs dom q => by
    obtain ⟨v, rfl, r1⟩ := one_of q
    obtain ⟨a, xs, rfl, h1, h2⟩ := rep_lst.mp r1
    rw [reps_bl.mp h2] at h1
    exact ⟨a, r, rfl, SqL.of (hid_ex _ _ h1), Ex.rfl, _, rfl, rb _⟩) hg (by decide) (by decide) he hpl

/-! ### items -/
theorem reps_at {K : PySem.W.Frag} {H : Hp} {xs : List V} (h : reps K ds xs H) (e : atI ds i = some d) : ∃ v, atI xs i = some v ∧ rep K d v H := by
  unfold atI at e ⊢
  rw [reps_len h] at e
  cases q : ixN xs.length i with
  | none =>
    rw [q] at e
    cases e
  | some j =>
    rw [q] at e
    exact reps_get h e
theorem v_item {dx : Dt} (q : Sq dx ds) (ha : EvD X δ a dx) (hb : EvD X δ b (.int i)) (h : atI ds i = some d) (hs : PlainIx b := by intro _ _; rfl) : EvD X δ (.Subscript a b pos) d :=
  v_ix (ix_seq) ha hb (d2 fun M H vx vy _ rx ry => by
    rw [rep_int.mp ry]
    cases q with
    | l =>
      obtain ⟨l, xs, rfl, h1, h2⟩ := rep_lst.mp rx
      obtain ⟨v, h3, h4⟩ := reps_at h2 h
      exact .inl ⟨l, xs, i, v, rfl, rfl, SqL.of (hid_ex _ _ h1), h3, Ex.rfl, _, rfl, h4⟩
    | s =>
      obtain ⟨l, rfl, h1⟩ := rep_scr.mp rx
      obtain ⟨v, h3, h4⟩ := reps_at (K := X.K) (H := hid M H) (reps_int.mpr rfl) h
      exact .inl ⟨l, _, i, v, rfl, rfl, hid_ex.l h1, h3, Ex.rfl, _, rfl, h4⟩
    | t =>
      obtain ⟨l, xs, rfl, h1, h2⟩ := rep_tup.mp rx
      obtain ⟨v, h3, h4⟩ := reps_at h2 h
      exact .inr (.inl ⟨l, xs, i, v, rfl, rfl, hid_ex.t h1, h3, Ex.rfl, _, rfl, h4⟩)) hs
/-- with an index (or a sequence) of which only a range is known -/
theorem v_itemN {dx : Dt} (q : Sq dx ds) (ha : EvD X δ a dx) (hb : EvE X δ b Rb) (h : ∀ y, Rb y → ∃ i d, y = .int i ∧ atI ds i = some d ∧ R d) (hs : PlainIx b := by intro _ _; rfl) : EvE X δ (.Subscript a b pos) R :=
  v_ix (ix_seq) ha hb (fun dx' dy e1 r1 M H vx vy _ rx ry => by
    cases e1
    obtain ⟨i, d, rfl, hi, hr⟩ := h dy r1
    rw [rep_int.mp ry]
    cases q with
    | l =>
      obtain ⟨l, xs, rfl, h1, h2⟩ := rep_lst.mp rx
      obtain ⟨v, h3, h4⟩ := reps_at h2 hi
      exact .inl ⟨l, xs, i, v, rfl, rfl, SqL.of (hid_ex _ _ h1), h3, Ex.rfl, _, hr, h4⟩
    | s =>
      obtain ⟨l, rfl, h1⟩ := rep_scr.mp rx
      obtain ⟨v, h3, h4⟩ := reps_at (K := X.K) (H := hid M H) (reps_int.mpr rfl) hi
      exact .inl ⟨l, _, i, v, rfl, rfl, hid_ex.l h1, h3, Ex.rfl, _, hr, h4⟩
    | t =>
      obtain ⟨l, xs, rfl, h1, h2⟩ := rep_tup.mp rx
      obtain ⟨v, h3, h4⟩ := reps_at h2 hi
      exact .inr (.inl ⟨l, xs, i, v, rfl, rfl, hid_ex.t h1, h3, Ex.rfl, _, hr, h4⟩)) hs
/-- an item of a list that is being changed, its length -/
theorem v_itemM (n : Nat) (hb : EvD X δ b (.int i)) (hd : δ[n]? = some (Sl.mu ds)) (h : atI ds i = some d) (hN : X.N[n]? = some x := by first | rfl | exact Cg.na (by assumption) rfl) (hv : Vis X.env.scope x := by first | exact Or.inl rfl | exact Or.inr (Or.inl rfl) | exact Or.inr (Or.inr rfl) | exact Cg.vis (by assumption) (by first | exact Or.inl rfl | exact Or.inr (Or.inl rfl) | exact Or.inr (Or.inr rfl))) (hs : PlainIx b := by intro _ _; rfl)
    (h1 : (x == ("__debug__" : Str)) = false := by decide) (h2 : (x == ("__classdict__" : Str)) = false := by decide) : EvD X δ (.Subscript (.Name x p) b pos) d := fun M0 M H0 σ H g => by
  obtain ⟨l, xs, k1, k2, k3, k4, k5, k6⟩ := g.is_mu n ds hd
  refine tev_of (pe_ix (ix_up ix_list) (pe_var hN hv h1 h2) pe_tev hs) ⟨.ref l, k4, tev_mono (hb M0 M H0 σ H g) fun y H2 ⟨e2, d', ed, q⟩ => ?_⟩
  cases ed
  obtain ⟨v, h3, h4⟩ := reps_at k6 h
  exact ⟨fun v H3 => v = _ ∧ H3 = H2, ⟨l, xs, i, v, rfl, rep_int.mp q, .inl (.inl (e2 _ _ k5)), h3, rfl, rfl⟩, fun u H3 ⟨eu, eh⟩ => by
    rw [eu, eh]
    exact ⟨e2, _, rfl, rep_mono (hid_mono e2) h4⟩⟩
theorem v_lenM (n : Nat) (hd : δ[n]? = some (Sl.mu ds)) (hN : X.N[n]? = some x := by first | rfl | exact Cg.na (by assumption) rfl) (hv : Vis X.env.scope x := by first | exact Or.inl rfl | exact Or.inr (Or.inl rfl) | exact Or.inr (Or.inr rfl) | exact Cg.vis (by assumption) (by first | exact Or.inl rfl | exact Or.inr (Or.inl rfl) | exact Or.inr (Or.inr rfl))) (hm : X.mg "len" = none := by first | assumption | exact Cg.bf (by assumption) (by assumption) rfl) (hg : Gl X "len" := by first | rfl | exact Cg.gl (by assumption) rfl)
    (he : starEach [(.Name x p)] X.env = (false, eval (.Name x p) X.env) :: starEach [] X.env := by rfl) (hpl : (backTo pos (starEach [] X.env)).any (·.1) = false := by rfl)
    (h1 : (x == ("__debug__" : Str)) = false := by decide) (h2 : (x == ("__classdict__" : Str)) = false := by decide) : EvD X δ (.Call (.Name "len" p') [(.Name x p)] [] pos) (.int ds.length) := fun M0 M H0 σ H g => by
  obtain ⟨l, xs, k1, k2, k3, k4, k5, k6⟩ := g.is_mu n ds hd
  exact tev_of (pe_callB call_len_seq hg hm boot_len (pa_cons (pe_var hN hv h1 h2) pa_nil he) (by decide) (by decide) he hpl) ⟨.ref l, k4, l, xs, rfl, .inl (.inl (.inl k5)), Ex.rfl, _, rfl, rep_int.mpr (by rw [reps_len k6])⟩
/-! ### slices -/
def cutD (ds : List Dt) (lo hi : Option Int) : List Dt := (ds.drop (HT.sIx ds.length 0 lo)).take (HT.sIx ds.length ds.length hi - HT.sIx ds.length 0 lo)
theorem reps_cut {K : PySem.W.Frag} {H : Hp} {xs : List V} (h : reps K ds xs H) (lo hi : Option Int) : reps K (cutD ds lo hi) (cutV xs lo hi) H := by
  unfold cutD cutV
  rw [← reps_len h]
  exact reps_take _ (reps_drop _ h)
/-- a part of a slice -/
def EvO (X : Cx) (δ : List Sl) (e : Option Expr) (o : Option Int) : Prop := ∀ M0 M H0 σ H, Sg X.K M0 M H0 δ σ H → ∃ t, PO X e t ∧ t σ H fun o' H2 => Ex H H2 ∧ o' = o
theorem o_none : EvO X δ none none := fun M0 M H0 σ H g => ⟨_, po_none, Ex.rfl, rfl⟩
theorem o_some (h : EvD X δ e (.int i)) : EvO X δ (some e) (some i) := fun M0 M H0 σ H g => ⟨_, po_some pe_tev, tev_mono (h M0 M H0 σ H g) fun v H2 ⟨e2, d, ed, q⟩ => by
  cases ed
  exact ⟨i, rep_int.mp q, e2, rfl⟩⟩
def tpo (X : Cx) (e : Option Expr) : TO := fun σ H Q => ∃ (t : TO) (Q' : Option Int → Hp → Prop), PO X e t ∧ t σ H Q' ∧ ∀ o H2, Q' o H2 → Q o H2
theorem po_tpo {e : Option Expr} : PO X e (tpo X e) := ⟨fun pins s σ H Q I ⟨t, Q', h, q, k⟩ => thn (h.run pins s σ H Q' I q) fun _ _ ⟨o, H2, I2, p, q2⟩ => ⟨o, H2, I2, p, k _ _ q2⟩⟩
theorem EvO.to {e : Option Expr} {o : Option Int} (h : EvO X δ e o) {M0 M : List Addr} {H0 : Hp} {σ : L2.St} {H : Hp} (g : Sg X.K M0 M H0 δ σ H) {Q : Option Int → Hp → Prop} (q : ∀ H2, Ex H H2 → Q o H2) : tpo X e σ H Q := by
  obtain ⟨t, h1, h2⟩ := h M0 M H0 σ H g
  exact ⟨t, _, h1, h2, fun o' H2 ⟨e2, eo⟩ => by rw [eo]; exact q H2 e2⟩
def upS (r : V → Option Int → Option Int → Hp → VK → Prop) : V → Option Int → Option Int → Hp → VK → Prop := fun x lo hi H Q => ∃ Q' : VK, r x lo hi H Q' ∧ ∀ v H2, Q' v H2 → Q v H2
theorem sl_up {r : V → Option Int → Option Int → Hp → VK → Prop} (h : SlR X r) : SlR X (upS r) := fun pins s σ H x v vl vu lo hi sl Q I rx hs pl pu ⟨Q', h1, h2⟩ => by
  obtain ⟨T, id, a1, a2, a3⟩ := h pins s σ H x v vl vu lo hi sl Q' I rx hs pl pu h1
  exact ⟨T, id, a1, a2, thnE a3 h2⟩
variable {lo hi : Option Expr} {p2 : Pos} {l h : Option Int}
/-- a[lo:hi] by a rule on values -/
theorem v_slice {r : V → Option Int → Option Int → Hp → VK → Prop} (hr : SlR X r) (ha : EvE X δ a Ra) (hl : EvO X δ lo l) (hh : EvO X δ hi h) (k : ∀ dx, Ra dx → ∀ M H vx, (∀ l ∈ M, H l ≠ none) → rep X.K dx vx (hid M H) → r vx l h H fun v H2 => Ex H H2 ∧ ∃ d, R d ∧ rep X.K d v (hid M H2)) :
    EvE X δ (.Subscript a (.Slice lo hi none p2) pos) R := fun M0 M H0 σ H g =>
  tev_of (pe_slice (sl_up hr) pe_tev po_tpo po_tpo) (tev_mono (ha M0 M H0 σ H g) fun v H1 ⟨e1, d, rd, q⟩ => hl.to (g.grow e1) fun H2 e2 => hh.to ((g.grow e1).grow e2) fun H3 e3 =>
    ⟨_, k d rd M H3 v (((g.grow e1).grow e2).grow e3).dom (rep_mono (hid_mono (e2.trans e3)) q), fun v H4 ⟨e4, q⟩ => ⟨((e1.trans e2).trans e3).trans e4, q⟩⟩)
theorem v_slL (ha : EvD X δ a (.lst ds)) (hl : EvO X δ lo l) (hh : EvO X δ hi h) : EvD X δ (.Subscript a (.Slice lo hi none p2) pos) (.lst (cutD ds l h)) :=
  v_slice sl_list ha hl hh fun dx e M H vx dom q => by
    cases e
    obtain ⟨a, xs, rfl, h1, h2⟩ := rep_lst.mp q
    exact ⟨a, xs, rfl, SqL.of (hid_ex _ _ h1), fun p hp => ⟨Ex.new hp, _, rfl, rep_newL dom hp (reps_cut h2 _ _)⟩⟩
theorem cut_all {xs : List V} (e : HT.sIx xs.length 0 l = 0 ∧ HT.sIx xs.length xs.length h = xs.length) : cutV xs l h = xs := by
  unfold cutV
  rw [e.1, e.2]
  simp
theorem v_slT (ha : EvD X δ a (.tup ds)) (hl : EvO X δ lo l) (hh : EvO X δ hi h) : EvD X δ (.Subscript a (.Slice lo hi none p2) pos) (.tup (cutD ds l h)) :=
  v_slice sl_tupA ha hl hh fun dx e M H vx dom q => by
    cases e
    obtain ⟨a, xs, rfl, h1, h2⟩ := rep_tup.mp q
    refine ⟨a, xs, rfl, hid_ex.t h1, fun e => ⟨Ex.rfl, _, rfl, rep_tup.mpr ⟨a, xs, rfl, h1, ?_⟩⟩, fun _ p hp => ⟨Ex.new hp, _, rfl, rep_new dom hp (reps_cut h2 _ _)⟩⟩
    have := reps_cut h2 l h
    rw [cut_all e] at this
    exact this
/-- of a list that is being changed -/
theorem v_slM (n : Nat) (hl : EvO X δ lo l) (hh : EvO X δ hi h) (hd : δ[n]? = some (Sl.mu ds)) (hN : X.N[n]? = some x := by first | rfl | exact Cg.na (by assumption) rfl) (hv : Vis X.env.scope x := by first | exact Or.inl rfl | exact Or.inr (Or.inl rfl) | exact Or.inr (Or.inr rfl) | exact Cg.vis (by assumption) (by first | exact Or.inl rfl | exact Or.inr (Or.inl rfl) | exact Or.inr (Or.inr rfl)))
    (h1 : (x == ("__debug__" : Str)) = false := by decide) (h2 : (x == ("__classdict__" : Str)) = false := by decide) : EvD X δ (.Subscript (.Name x p) (.Slice lo hi none p2) pos) (.lst (cutD ds l h)) := fun M0 M H0 σ H g => by
  obtain ⟨q, xs, k1, k2, k3, k4, k5, k6⟩ := g.is_mu n ds hd
  refine tev_of (pe_slice (sl_up sl_list) (pe_var hN hv h1 h2) po_tpo po_tpo) ⟨.ref q, k4, hl.to g fun H2 e2 => hh.to (g.grow e2) fun H3 e3 => ⟨fun v H4 => Ex H3 H4 ∧ ∃ d, is_ (.lst (cutD ds l h)) d ∧ rep X.K d v (hid M H4), ⟨q, xs, rfl, SqL.of (e3 _ _ (e2 _ _ k5)), fun p hp => ⟨Ex.new hp, _, rfl, ?_⟩⟩, fun v H4 ⟨e4, q⟩ => ⟨(e2.trans e3).trans e4, q⟩⟩⟩
  exact rep_newL ((g.grow e2).grow e3).dom hp (reps_mono (hid_mono (e2.trans e3)) (reps_cut k6 l h))
/-- xs[::-1] of a list -/
theorem v_revL {q : Nat} {p1 p3 : Pos} (ha : EvD X δ a (.lst ds)) : EvD X δ (.Subscript a (.Slice none none (some (.UnaryOp .USub (.Constant (.int 1) q p1) p2)) p3) pos) (.lst ds.reverse) := fun M0 M H0 σ H g =>
  tev_of (pe_revL pe_tev) (tev_mono (ha M0 M H0 σ H g) fun v H1 ⟨e1, d, rd, q⟩ => by
    cases rd
    obtain ⟨a, xs, rfl, h1, h2⟩ := rep_lst.mp q
    exact ⟨a, xs, rfl, SqL.of (hid_ex _ _ h1), fun p hp => ⟨e1.trans (Ex.new hp), _, rfl, rep_newL (g.grow e1).dom hp (reps_rev h2)⟩⟩)

/-! ### + and * of lists, tuples, texts -/
theorem v_addS (hl : s.length + t.length ≤ 100000) (ha : EvD X δ a (.str s)) (hb : EvD X δ b (.str t)) : EvD X δ (.BinOp a .Add b pos) (.str (s ++ t)) := v_op op_add_str ha hb (d2 fun M H vx vy _ rx ry =>
  ⟨s, t, rep_str.mp rx, rep_str.mp ry, Nat.le_trans hl (by decide), Ex.rfl, _, rfl, rs _⟩)
theorem v_addL {es' : List Dt} (hl : ds.length + es'.length ≤ 100000) (ha : EvD X δ a (.lst ds)) (hb : EvD X δ b (.lst es')) : EvD X δ (.BinOp a .Add b pos) (.lst (ds ++ es')) := v_op op_cat ha hb (d2 fun M H vx vy dom rx ry => by
  obtain ⟨a, xs, rfl, h1, h2⟩ := rep_lst.mp rx
  obtain ⟨b, ys, rfl, h3, h4⟩ := rep_lst.mp ry
  exact ⟨a, b, xs, ys, rfl, rfl, hid_ex _ _ h1, hid_ex _ _ h3, by rw [← reps_len h2, ← reps_len h4]; exact Nat.le_trans hl (by decide), fun p hp => ⟨Ex.new hp, _, rfl, rep_newL dom hp (reps_app h2 h4)⟩⟩)
theorem v_addT {es' : List Dt} (hl : ds.length + es'.length ≤ 100000) (ha : EvD X δ a (.tup ds)) (hb : EvD X δ b (.tup es')) : EvD X δ (.BinOp a .Add b pos) (.tup (ds ++ es')) := v_op op_catA ha hb (d2 fun M H vx vy dom rx ry => by
  obtain ⟨a, xs, rfl, h1, h2⟩ := rep_tup.mp rx
  obtain ⟨b, ys, rfl, h3, h4⟩ := rep_tup.mp ry
  refine ⟨a, b, xs, ys, rfl, rfl, hid_ex.t h1, hid_ex.t h3, by rw [← reps_len h2, ← reps_len h4]; exact Nat.le_trans hl (by decide), fun e => ⟨Ex.rfl, _, rfl, ?_⟩, fun _ e => ⟨Ex.rfl, _, rfl, ?_⟩, fun _ _ p hp => ⟨Ex.new hp, _, rfl, rep_new dom hp (reps_app h2 h4)⟩⟩
  · have e2 : ds = [] := List.eq_nil_of_length_eq_zero (by rw [reps_len h2, e]; rfl)
    rw [e2]
    exact ry
  · have e2 : es' = [] := List.eq_nil_of_length_eq_zero (by rw [reps_len h4, e]; rfl)
    rw [e2, List.append_nil]
    exact rx)
theorem reps_rep {K : PySem.W.Frag} {H : Hp} {xs : List V} (h : reps K ds xs H) : ∀ n : Nat, reps K (List.replicate n ds).flatten (List.replicate n xs).flatten H
  | 0 => reps_nil.mpr rfl
  | n + 1 => by
    rw [List.replicate_succ, List.replicate_succ, List.flatten_cons, List.flatten_cons]
    exact reps_app h (reps_rep h n)
/-- [x] * n: a new list -/
theorem l_rep {n : Int} (hn : n ≤ 10000) (hn0 : -10000 ≤ n) (hl : ds.length ≤ 10) (ha : EvD X δ a (.lst ds)) (hb : EvD X δ b (.int n)) : EvL X δ (.BinOp a .Mult b pos) (List.replicate n.toNat ds).flatten := fun M0 M H0 σ H g =>
  tev_of (pe_op op_rep pe_tev pe_tev) (ev2 ha hb g fun x y dx dy H2 e r1 r2 q1 q2 g2 => by
    cases r1
    cases r2
    obtain ⟨a, xs, rfl, h1, h2⟩ := rep_lst.mp q1
    refine ⟨a, n, xs, rfl, rep_int.mp q2, hid_ex _ _ h1, by omega, by omega, ?_, fun p hp => ⟨p, _, H2, rfl, e, hp, rfl, reps_rep h2 _⟩⟩
    rw [← reps_len h2]
    have : ds.length * n.toNat ≤ 10 * 10000 := Nat.mul_le_mul hl (by omega)
    exact Nat.le_trans this (by decide))
/-- a + b: a new list -/
theorem l_cat {es' : List Dt} (hl : ds.length + es'.length ≤ 100000) (ha : EvD X δ a (.lst ds)) (hb : EvD X δ b (.lst es')) : EvL X δ (.BinOp a .Add b pos) (ds ++ es') := fun M0 M H0 σ H g =>
  tev_of (pe_op op_cat pe_tev pe_tev) (ev2 ha hb g fun x y dx dy H2 e r1 r2 q1 q2 g2 => by
    cases r1
    cases r2
    obtain ⟨a, xs, rfl, h1, h2⟩ := rep_lst.mp q1
    obtain ⟨b, ys, rfl, h3, h4⟩ := rep_lst.mp q2
    exact ⟨a, b, xs, ys, rfl, rfl, hid_ex _ _ h1, hid_ex _ _ h3, by rw [← reps_len h2, ← reps_len h4]; exact Nat.le_trans hl (by decide), fun p hp => ⟨p, _, H2, rfl, e, hp, rfl, reps_app h2 h4⟩⟩)
end
end DL

namespace DL
open PySem PySem.Spec PyProof.Rows L2

/-! ### promises by data -/
/-- from the arguments' data: what the answer's data is to be in -/
abbrev Sd := List Dt → (Dt → Prop) → Prop
def spD (K : PySem.W.Frag) (S : Sd) : Sp := fun vs H Q _ => ∃ M ds R, (∀ l ∈ M, H l ≠ none) ∧ reps K ds vs (hid M H) ∧ S ds R ∧ ∀ d v H2, R d → Ex H H2 → rep K d v (hid M H2) → Q v H2
abbrev FnA (P : Program) (w : World) (K : PySem.W.Frag) (mg : Str → Option Value) (base : Heap) (k : Nat) (f : Addr) (S : Sd) : Prop := FnR P w K mg base CX0 k f (spD K S)
theorem FnA.up {P : Program} {w : World} {K : PySem.W.Frag} {mg : Str → Option Value} {base : Heap} {j k : Nat} {f : Addr} {S : Sd} (F : FnA P w K mg base j f S) (h : j ≤ k) : FnA P w K mg base k f S := FnR.mono F h
/-- the promise of an __init__: it makes an object with fields of RF -/
abbrev Si := List Dt → (List (Option Dt) → Prop) → Prop
def spI (K : PySem.W.Frag) (C : Addr) (S : Si) : Sp := fun vs H Q _ => ∃ M G x dx xs ds RF, vs = V.ref x :: xs ∧ G x = none ∧ G dx = none ∧ dx ≠ x ∧ H = upd (upd G dx (.own x)) x (.ins C dx []) ∧ (∀ l ∈ M, G l ≠ none) ∧ reps K ds xs (hid M G) ∧ S ds RF ∧
  ∀ fs vals H2, RF fs → Ex G H2 → SlX.Slt H2 x C dx vals → (∀ (j : Nat) (d : Dt), fs[j]? = some (some d) → ∃ v, vals[j]? = some (some v) ∧ rep K d v (hid (x :: dx :: M) H2)) → Q .non H2

/-- d is an object of the class at C (with slots); its j-th slot holds data of R -/
def InsD (K : PySem.W.Frag) (C : Addr) (d : Dt) : Prop := ∀ v H, rep K d v H → ∃ a dx vals, v = .ref a ∧ SlX.Slt H a C dx vals
def FldD (K : PySem.W.Frag) (C : Addr) (j : Nat) (d : Dt) (R : Dt → Prop) : Prop := ∀ v H, rep K d v H → ∃ a dx vals x d', v = .ref a ∧ SlX.Slt H a C dx vals ∧ vals[j]? = some (some x) ∧ R d' ∧ rep K d' x H
theorem FldD.ins {K : PySem.W.Frag} {C : Addr} {j : Nat} {d : Dt} {R : Dt → Prop} (h : FldD K C j d R) : InsD K C d := fun v H r => by
  obtain ⟨a, dx, vals, x, d', e, q, _⟩ := h v H r
  exact ⟨a, dx, vals, e, q⟩
theorem fld_of {K : PySem.W.Frag} {C : Addr} {j : Nat} {Ps : List PV} {Q : PV} {R : Dt → Prop} {v : V} {H : Hp} (h : objAt C Ps v H) (hj : Ps[j]? = some Q) (k : ∀ x, Q x H → ∃ d', R d' ∧ rep K d' x H) :
    ∃ a dx vals x d', v = .ref a ∧ SlX.Slt H a C dx vals ∧ vals[j]? = some (some x) ∧ R d' ∧ rep K d' x H := by
  obtain ⟨a, dx, vals, e, h1, h2, h3⟩ := h
  obtain ⟨x, hx, q⟩ := h3 j Q hj
  obtain ⟨d', r1, r2⟩ := k x q
  exact ⟨a, dx, vals, x, d', e, .inr ⟨h1, h2⟩, hx, r1, r2⟩
mutual
theorem rep0_up {K : PySem.W.Frag} : ∀ (d : Dt) (v : V) (H : Hp), rep0 K d v H → rep K d v H
  | .non, v, H, h => by unfold rep0 rep at *; simpa only [repG] using h
  | .bl b, v, H, h => by unfold rep0 rep at *; simpa only [repG] using h
  | .int i, v, H, h => by unfold rep0 rep at *; simpa only [repG] using h
  | .str s, v, H, h => by unfold rep0 rep at *; simpa only [repG] using h
  | .val x, v, H, h => by unfold rep0 rep at *; simpa only [repG] using h
  | .scr x, v, H, h => by unfold rep0 rep at *; simpa only [repG] using h
  | .tup ds, v, H, h => by
    unfold rep0 at h
    simp only [repG] at h
    obtain ⟨a, xs, h1, h2, h3⟩ := h
    exact rep_tup.mpr ⟨a, xs, h1, h2, reps0_up ds xs H h3⟩
  | .lst ds, v, H, h => by
    unfold rep0 at h
    simp only [repG] at h
    obtain ⟨a, xs, h1, h2, h3⟩ := h
    exact rep_lst.mpr ⟨a, xs, h1, h2, reps0_up ds xs H h3⟩
  | .poly p r, v, H, h => by unfold rep0 at h; simp only [repG] at h
  | .ent r, v, H, h => by unfold rep0 at h; simp only [repG] at h
  | .curve p f, v, H, h => by unfold rep0 at h; simp only [repG] at h
  | .fn p f a b c, v, H, h => by unfold rep0 at h; simp only [repG] at h
  | .round p rows last len, v, H, h => by unfold rep0 at h; simp only [repG] at h
  | .steps p f P Q S, v, H, h => by unfold rep0 at h; simp only [repG] at h
  | .dice, v, H, h => by unfold rep0 at h; simp only [repG] at h
theorem reps0_up {K : PySem.W.Frag} : ∀ (ds : List Dt) (xs : List V) (H : Hp), repsG (fun _ _ _ => False) K ds xs H → reps K ds xs H
  | [], xs, H, h => by
    simp only [repsG] at h
    exact reps_nil.mpr h
  | d :: ds, xs, H, h => by
    simp only [repsG] at h
    obtain ⟨x, ys, h1, h2, h3⟩ := h
    exact reps_cons.mpr ⟨x, ys, h1, rep0_up d x H h2, reps0_up ds ys H h3⟩
end
/-- the other way, for rows -/
theorem rep0_row {K : PySem.W.Frag} {r : List Int} {v : V} {H : Hp} (h : rep K (.tup (rowD r)) v H) : rep0 K (.tup (rowD r)) v H := by
  obtain ⟨a, xs, h1, h2, h3⟩ := rep_tup.mp h
  have e := reps_int.mp h3
  have key : ∀ (r : List Int), repsG (fun _ _ _ => False) K (rowD r) (r.map V.int) H := fun r => by
    induction r with
    | nil => simp only [List.map_nil, repsG]
    | cons i r ih =>
      show repsG _ K (.int i :: rowD r) (.int i :: r.map V.int) H
      simp only [repsG, repG]
      exact ⟨_, _, rfl, rfl, ih⟩
  unfold rep0
  simp only [repG]
  refine ⟨a, xs, h1, h2, ?_⟩
  rw [e]
  exact key r

section
variable {K : PySem.W.Frag} {p : Int} {r f a b c : List Int}
abbrev cP (K : PySem.W.Frag) : Addr := He.ga K "Poly"
abbrev cE (K : PySem.W.Frag) : Addr := He.ga K "Entries"
abbrev cC (K : PySem.W.Frag) : Addr := He.ga K "Curve"
abbrev cF (K : PySem.W.Frag) : Addr := He.ga K "Function"
abbrev cR (K : PySem.W.Frag) : Addr := He.ga K "Round"
theorem f_row : FldD K (cP K) 0 (.poly p r) (is_ (.tup (rowD r))) := fun v H h => by
  obtain ⟨w, n, t, ht, q⟩ := rep_poly.mp h
  exact fld_of q rfl fun x hx => ⟨_, rfl, rep0_up _ _ _ hx⟩
theorem f_lead : FldD K (cP K) 1 (.poly p r) (is_ (.int (r.getLastD 0))) := fun v H h => by
  obtain ⟨w, n, t, ht, q⟩ := rep_poly.mp h
  exact fld_of q rfl fun x hx => ⟨_, rfl, rep_int.mpr hx⟩
theorem f_prime : FldD K (cP K) 3 (.poly p r) (is_ (.int p)) := fun v H h => by
  obtain ⟨w, n, t, ht, q⟩ := rep_poly.mp h
  exact fld_of q rfl fun x hx => ⟨_, rfl, rep_int.mpr hx⟩
theorem f_text : FldD K (cP K) 4 (.poly p r) (fun d => ∃ t : Str, d = .str t ∧ t.length ≤ 16 * r.length + 16) := fun v H h => by
  obtain ⟨w, n, t, ht, q⟩ := rep_poly.mp h
  exact fld_of q rfl fun x hx => ⟨_, ⟨t, rfl, ht⟩, rep_str.mpr hx⟩
theorem wf_of {v : V} {H : Hp} (h : rep K (.poly p r) v H) : Wf p r := (rep_poly.mp h).1
theorem f_ent : FldD K (cE K) 0 (.ent r) (is_ (.tup (rowD r))) := fun v H h => fld_of (rep_ent.mp h) rfl fun x hx => ⟨_, rfl, rep0_up _ _ _ hx⟩
theorem f_f : FldD K (cC K) 0 (.curve p f) (is_ (.poly p f)) := fun v H h => by
  obtain ⟨w1, w2, kd, t, ht, hk, q⟩ := rep_curve.mp h
  exact fld_of q rfl fun x hx => ⟨_, rfl, rep_poly.mpr hx⟩
theorem f_genus : FldD K (cC K) 1 (.curve p f) (is_ (.int (((f.length : Int) - 2) / 2))) := fun v H h => by
  obtain ⟨w1, w2, kd, t, ht, hk, q⟩ := rep_curve.mp h
  exact fld_of q rfl fun x hx => ⟨_, rfl, rep_int.mpr hx⟩
theorem f_kind : FldD K (cC K) 2 (.curve p f) (fun d => ∃ kd : Str, d = .str kd ∧ (kd = "two" ↔ f.length % 2 = 1 ∧ rootsOf p (f.getLastD 0) ≠ [])) := fun v H h => by
  obtain ⟨w1, w2, kd, t, ht, hk, q⟩ := rep_curve.mp h
  exact fld_of q rfl fun x hx => ⟨_, ⟨kd, rfl, hk⟩, rep_str.mpr hx⟩
theorem f_cprime : FldD K (cC K) 4 (.curve p f) (is_ (.int p)) := fun v H h => by
  obtain ⟨w1, w2, kd, t, ht, hk, q⟩ := rep_curve.mp h
  exact fld_of q rfl fun x hx => ⟨_, rfl, rep_int.mpr hx⟩
theorem f_rims (h2 : f.length % 2 = 1 ∧ rootsOf p (f.getLastD 0) ≠ []) : FldD K (cC K) 5 (.curve p f) (is_ (rimsD p f)) := fun v H h => by
  obtain ⟨w1, w2, kd, t, ht, hk, q⟩ := rep_curve.mp h
  exact fld_of q rfl fun x hx => ⟨_, rfl, rep0_up _ _ _ (hx (hk.mpr h2))⟩
theorem f_a : FldD K (cF K) 0 (.fn p f a b c) (is_ (.poly p a)) := fun v H h => fld_of (rep_fn.mp h) rfl fun x hx => ⟨_, rfl, rep_poly.mpr hx⟩
theorem f_b : FldD K (cF K) 1 (.fn p f a b c) (is_ (.poly p b)) := fun v H h => fld_of (rep_fn.mp h) rfl fun x hx => ⟨_, rfl, rep_poly.mpr hx⟩
theorem f_c : FldD K (cF K) 2 (.fn p f a b c) (is_ (.poly p c)) := fun v H h => fld_of (rep_fn.mp h) rfl fun x hx => ⟨_, rfl, rep_poly.mpr hx⟩
theorem f_curve : FldD K (cF K) 3 (.fn p f a b c) (is_ (.curve p f)) := fun v H h => fld_of (rep_fn.mp h) rfl fun x hx => ⟨_, rfl, rep_curve.mpr hx⟩
variable {rows : List (List Int × List Int × List Int)} {last len : Int}
theorem f_last : FldD K (cR K) 0 (.round p rows last len) (is_ (.int last)) := fun v H h => fld_of (rep_round.mp h) rfl fun x hx => ⟨_, rfl, rep_int.mpr hx⟩
theorem f_length : FldD K (cR K) 1 (.round p rows last len) (is_ (.int len)) := fun v H h => fld_of (rep_round.mp h) rfl fun x hx => ⟨_, rfl, rep_int.mpr hx⟩
theorem rows_up : ∀ {rows : List (List Int × List Int × List Int)} {xs : List V} {H : Hp}, repsG (ob1 K) K (rowsD p rows) xs H ↔ reps K (rowsD p rows) xs H
  | [], xs, H => by
    show repsG _ _ [] _ _ ↔ reps _ [] _ _
    simp only [repsG, reps_nil]
  | q :: rows, xs, H => by
    show repsG _ _ (.tup [.poly p q.1, .poly p q.2.1, .poly p q.2.2] :: rowsD p rows) _ _ ↔ reps _ (.tup [.poly p q.1, .poly p q.2.1, .poly p q.2.2] :: rowsD p rows) _ _
    simp only [repsG, reps_cons, rep_tup, repG, ob1, rep_poly, reps_nil, rows_up]
theorem f_rows : FldD K (cR K) 2 (.round p rows last len) (is_ (.lst (rowsD p rows))) := fun v H h => fld_of (rep_round.mp h) rfl fun x hx => ⟨_, rfl, by
  simp only [repG] at hx
  obtain ⟨a, xs, h1, h2, h3⟩ := hx
  exact rep_lst.mpr ⟨a, xs, h1, h2, rows_up.mp h3⟩⟩
theorem i_poly : InsD K (cP K) (.poly p r) := f_row.ins
theorem i_ent : InsD K (cE K) (.ent r) := f_ent.ins
theorem i_curve : InsD K (cC K) (.curve p f) := f_f.ins
theorem i_fn : InsD K (cF K) (.fn p f a b c) := f_a.ins
abbrev cS (K : PySem.W.Frag) : Addr := He.ga K "Steps"
theorem f_sf {f P Q S : List Int} : FldD K (cS K) 0 (.steps p f P Q S) (is_ (.poly p f)) := fun v H h => fld_of (rep_steps.mp h) rfl fun x hx => ⟨_, rfl, rep_poly.mpr hx⟩
theorem f_sp {f P Q S : List Int} : FldD K (cS K) 1 (.steps p f P Q S) (is_ (.poly p P)) := fun v H h => fld_of (rep_steps.mp h) rfl fun x hx => ⟨_, rfl, rep_poly.mpr hx⟩
theorem f_sq {f P Q S : List Int} : FldD K (cS K) 2 (.steps p f P Q S) (is_ (.poly p Q)) := fun v H h => fld_of (rep_steps.mp h) rfl fun x hx => ⟨_, rfl, rep_poly.mpr hx⟩
theorem f_sroot {f P Q S : List Int} : FldD K (cS K) 3 (.steps p f P Q S) (is_ (.poly p S)) := fun v H h => fld_of (rep_steps.mp h) rfl fun x hx => ⟨_, rfl, rep_poly.mpr hx⟩
theorem i_steps {f P Q S : List Int} : InsD K (cS K) (.steps p f P Q S) := f_sf.ins
theorem i_round : InsD K (cR K) (.round p rows last len) := f_last.ins
end

/-! ### the rules -/
section
variable {X : Cx} {δ : List Sl} {a b c e o : Expr} {es : List Expr} {pos apos : Pos} {Ra Rb Rc R R' : Dt → Prop} {Rs : List Dt → Prop} {i j : Int} {x m fl : Str} {p : Pos} {ds : List Dt} {d : Dt}
variable {P : Program} {w : World} {K : PySem.W.Frag} {mg : Str → Option Value} {base : Heap} {k n : Nat} {N : List Str} {sc : Scope} {f g C pr : Addr} {S : Sd} {sp : Sp}
theorem pe_callR {t : TA} (F : FnR X.prog X.w X.K X.mg X.base CX0 n f sp) (hr : Room n X.A) (hk : PySem.W.keepIn X.K (.ref f) = true) (hg : Gl X x) (hm : X.mg x = some (.ref f)) (ha : PA X (e :: es) t) (hd : (x == ("__debug__" : Str)) = false)
    (he : starEach (e :: es) X.env = (false, eval e X.env) :: starEach es X.env) (hpl : (backTo pos (starEach es X.env)).any (·.1) = false) : PE X (.Call (.Name x p) (e :: es) [] pos) (fun σ H Q => t σ H fun vs H1 => sp vs H1 Q E0) :=
  ⟨fun pins s σ H Q I h => wpAny_Call_Name_kw (ld_glob I hg hm (PySem.W.callWith_K (h₀ := X.base) I.ok.mod.kin hk
    (thn (ha.run pos pins s σ H _ I h) fun us s1 ⟨vs, H1, I1, r, q⟩ => ⟨I1.kIn, wpAny_call (run_fnR F hr pass0 I1 r q)⟩) he hpl) hd)⟩
/-- f(..): a def of the module -/
theorem v_call (cg : Cg P w K mg base k N sc X) (F : FnA P w K mg base n f S) (hn : n ≤ k) (hm : mg x = some (.ref f)) (hk : PySem.W.keepIn K (.ref f) = true) (ha : EvA X δ (e :: es) Rs) (h : ∀ ds, Rs ds → S ds R) (hg : Gl X x := by first | rfl | exact Cg.gl (by assumption) rfl)
    (hd : (x == ("__debug__" : Str)) = false := by decide) (he : starEach (e :: es) X.env = (false, eval e X.env) :: starEach es X.env := by rfl) (hpl : (backTo pos (starEach es X.env)).any (·.1) = false := by rfl) : EvE X δ (.Call (.Name x p) (e :: es) [] pos) R := fun M0 M H0 σ H G => by
  obtain ⟨rfl, rfl, rfl, rfl, rfl, rfl, rfl, nd, room, calm, nox⟩ := cg
  exact tev_of (pe_callR F (room.mono hn) hk hg hm pa_tea hd he hpl) (tea_mono (ha M0 M H0 σ H G) fun vs H1 ⟨e1, ds, rs, q⟩ => ⟨M, ds, R, (G.grow e1).dom, q, h ds rs, fun d v H2 rd e2 r => ⟨e1.trans e2, d, rd, r⟩⟩)
/-- o.f, f a slot -/
theorem v_slot {jj : Nat} (sc1 : SlX.SCls X.K C) (sl : SlX.Slot1 X.K C fl pr jj) (fd : FldD X.K C jj d R) (ha : EvD X δ a d) (hb : attributeBase a fl X.env (eval a X.env) = eval a X.env := by rfl) : EvE X δ (.Attribute a fl pos) R := fun M0 M H0 σ H G =>
  tev_of (SlX.pe_sl pe_tev hb) (tev_mono (ha M0 M H0 σ H G) fun v H1 ⟨e1, d', ed, q⟩ => by
    cases ed
    obtain ⟨aa, dx, vals, y, d2, ev, h1, h2, h3, h4⟩ := fd v _ q
    exact ⟨aa, C, dx, pr, vals, jj, y, ev, SlX_keep hid_ex h1, sc1, sl, h2, e1, d2, h3, h4⟩)
/-- o.f, f a property -/
theorem v_prop (cg : Cg P w K mg base k N sc X) (sc1 : SlX.SCls K C) (pp : PropOf K C fl pr g) (F : FnA P w K mg base n g S) (hn : n + 1 ≤ k) (ii : InsD K C d) (h : S [d] R) (ha : EvD X δ a d) (hb : attributeBase a fl X.env (eval a X.env) = eval a X.env := by rfl) : EvE X δ (.Attribute a fl pos) R := fun M0 M H0 σ H G => by
  obtain ⟨rfl, rfl, rfl, rfl, rfl, rfl, rfl, nd, room, calm, nox⟩ := cg
  refine tev_of (SlX.pe_propSl (CX := CX0) (E := E0) pe_tev sc1 pp.at_ pp.get pp.tak pp.rec_ F (room.mono hn) (fun _ _ _ _ z => z.elim) hb) (tev_mono (ha M0 M H0 σ H G) fun v H1 ⟨e1, d', ed, q⟩ => ?_)
  cases ed
  obtain ⟨aa, dx, vals, ev, h1⟩ := ii v _ q
  subst ev
  exact ⟨aa, dx, vals, rfl, SlX_keep hid_ex h1, M, [d], R, (G.grow e1).dom, reps_mk q (reps_nil.mpr rfl), h, fun d2 v H2 rd e2 r => ⟨e1.trans e2, d2, rd, r⟩⟩
/-- o.m(..), o.m() -/
theorem v_meth (cg : Cg P w K mg base k N sc X) (sc1 : SlX.SCls K C) (hm : Meth K C m g) (F : FnA P w K mg base n g S) (hn : n ≤ k) (ii : InsD K C d) (ho : EvD X δ o d) (ha : EvA X δ (e :: es) Rs) (h : ∀ ds, Rs ds → S (d :: ds) R) {pl : Sem Bool}
    (hst : starEach (e :: es) X.env = (false, eval e X.env) :: starEach es X.env := by rfl) (hpl : (backTo pos (starEach es X.env)).any (·.1) = false := by rfl)
    (ht : eval (.Call (.Attribute o m apos) (e :: es) [] pos) X.env = (do
      let ov ← eval o X.env
      standAt apos.atName
      let (f, first) ← holding [ov] (getMethod ov m pl)
      callWith pos f first (backTo pos (starEach (e :: es) X.env)) (backToKw pos (keywordEach [] X.env))) := by rfl) : EvE X δ (.Call (.Attribute o m apos) (e :: es) [] pos) R := fun M0 M H0 σ H G => by
  obtain ⟨rfl, rfl, rfl, rfl, rfl, rfl, rfl, nd, room, calm, nox⟩ := cg
  refine tev_of (SlX.pe_methSl (CX := CX0) (E := E0) pe_tev sc1 hm F (room.mono hn) pass0 pa_tea hst hpl ht) (tev_mono (ho M0 M H0 σ H G) fun v H1 ⟨e1, d', ed, q⟩ => ?_)
  cases ed
  obtain ⟨aa, dx, vals, ev, h1⟩ := ii v _ q
  refine ⟨aa, dx, vals, ev, SlX_keep hid_ex h1, tea_mono (ha M0 M H0 σ H1 (G.grow e1)) fun ws H2 ⟨e2, ds, rs, q2⟩ => ?_⟩
  exact ⟨M, d :: ds, R, ((G.grow e1).grow e2).dom, reps_mk (rep_mono (hid_mono e2) q) q2, h ds rs, fun d2 v H3 rd e3 r => ⟨(e1.trans e2).trans e3, d2, rd, r⟩⟩
theorem v_meth0 (cg : Cg P w K mg base k N sc X) (sc1 : SlX.SCls K C) (hm : Meth K C m g) (F : FnA P w K mg base n g S) (hn : n ≤ k) (ii : InsD K C d) (ho : EvD X δ o d) (h : S [d] R) {pl : Sem Bool}
    (ht : eval (.Call (.Attribute o m apos) [] [] pos) X.env = (do
      let ov ← eval o X.env
      standAt apos.atName
      let (f, first) ← holding [ov] (getMethod ov m pl)
      callWith pos f first (backTo pos (starEach [] X.env)) (backToKw pos (keywordEach [] X.env))) := by rfl) : EvE X δ (.Call (.Attribute o m apos) [] [] pos) R := fun M0 M H0 σ H G => by
  obtain ⟨rfl, rfl, rfl, rfl, rfl, rfl, rfl, nd, room, calm, nox⟩ := cg
  refine tev_of (SlX.pe_methSl0 (CX := CX0) (E := E0) pe_tev sc1 hm F (room.mono hn) pass0 ht) (tev_mono (ho M0 M H0 σ H G) fun v H1 ⟨e1, d', ed, q⟩ => ?_)
  cases ed
  obtain ⟨aa, dx, vals, ev, h1⟩ := ii v _ q
  exact ⟨aa, dx, vals, ev, SlX_keep hid_ex h1, M, [d], R, (G.grow e1).dom, reps_mk q (reps_nil.mpr rfl), h, fun d2 v H3 rd e3 r => ⟨e1.trans e3, d2, rd, r⟩⟩
/-- C(..), C a class with slots: seal says what data the fields make -/
def Seal (K : PySem.W.Frag) (C : Addr) (fs : List (Option Dt)) (d : Dt) : Prop := ∀ a dx vals H, H a = some (SlX.SlO a C dx vals) → H dx = some (.xd []) → (∀ (j : Nat) (d : Dt), fs[j]? = some (some d) → ∃ v, vals[j]? = some (some v) ∧ rep K d v H) → rep K d (.ref a) H
theorem v_new {T : Si} (cg : Cg P w K mg base k N sc X) (mk : Mk K C g) (F : FnR P w K mg base CX0 n g (spI K C T)) (hn : n + 1 ≤ k) (hm : mg x = some (.ref C)) (ha : EvA X δ (e :: es) Rs)
    (h : ∀ ds, Rs ds → ∃ RF, T ds RF ∧ ∀ fs, RF fs → (∃ d, fs[0]? = some (some d)) ∧ ∃ d, R d ∧ Seal K C fs d) (hg : Gl X x := by first | rfl | exact Cg.gl (by assumption) rfl)
    (hd : (x == ("__debug__" : Str)) = false := by decide) (he : starEach (e :: es) X.env = (false, eval e X.env) :: starEach es X.env := by rfl) (hpl : (backTo pos (starEach es X.env)).any (·.1) = false := by rfl) : EvE X δ (.Call (.Name x p) (e :: es) [] pos) R := fun M0 M H0 σ H G => by
  obtain ⟨rfl, rfl, rfl, rfl, rfl, rfl, rfl, nd, room, calm, nox⟩ := cg
  refine tev_of (StX.pe_makeR (CX := CX0) (E := E0) mk F (room.mono hn) hg hm pass0 pa_tea hd he hpl) (tea_mono (ha M0 M H0 σ H G) fun vs H1 ⟨e1, ds, rs, q⟩ y dy hy hdy ne => ?_)
  obtain ⟨RF, t1, t2⟩ := h ds rs
  have dom := (G.grow e1).dom
  refine ⟨M, H1, y, dy, vs, ds, RF, rfl, hy, hdy, ne, rfl, dom, q, t1, fun fs vals H2 rf e2 hs hv => ⟨rfl, e1.trans e2, ?_⟩⟩
  obtain ⟨⟨d0, hd0⟩, d, rd, sl⟩ := t2 fs rf
  refine ⟨d, rd, ?_⟩
  have nv : vals ≠ [] := fun z => by
    obtain ⟨v, hv0, _⟩ := hv 0 d0 hd0
    rw [z] at hv0
    cases hv0
  have hyM : y ∉ M := fun z => dom y z hy
  have hdM : dy ∉ M := fun z => dom dy z hdy
  rcases hs with ⟨_, q2⟩ | ⟨q1, q2⟩
  · exact absurd q2 nv
  · exact sl y dy vals _ (by rw [hid_at hyM]; exact q1) (by rw [hid_at hdM]; exact q2) fun j d hj => by
      obtain ⟨v, a, b⟩ := hv j d hj
      exact ⟨v, a, rep_mono (hid_sub fun l hl => List.mem_cons_of_mem _ (List.mem_cons_of_mem _ hl)) b⟩
end
end DL

namespace DL
open PySem PySem.Spec PyProof.Rows L2

section
variable {X : Cx} {δ : List Sl} {a b c e o : Expr} {es : List Expr} {pos apos : Pos} {Ra Rb Rc R R' : Dt → Prop} {Rs : List Dt → Prop} {i j : Int} {x m fl : Str} {p : Pos} {ds : List Dt} {d da db : Dt}
variable {P : Program} {w : World} {K : PySem.W.Frag} {mg : Str → Option Value} {base : Heap} {k n : Nat} {N : List Str} {sc : Scope} {f g C D pr : Addr} {S : Sd} {sp : Sp}
/-! ### own operators -/
def rOwnB (C : Addr) (sp : Sp) : R2 := fun x y H Q => ∃ a dx vs b dy ws, x = V.ref a ∧ y = V.ref b ∧ SlX.Slt H a C dx vs ∧ SlX.Slt H b C dy ws ∧ sp [x, y] H Q E0
theorem op_ownB {op : Operator} (sf : PySem.W.selfFirst X.K C = true) (hs : PySem.W.findIn X.K (.ref C) (PySem.dunder op.info.2) = some (some (.ref g))) (hf : PySem.W.isFn X.K (.ref g) = true) (F : FnR X.prog X.w X.K X.mg X.base CX0 n g sp) (hr : Room n X.A) :
    OpR X (binaryOp op) (rOwnB C sp) := by
  intro pins s σ H x y v u Q I rx ry h
  obtain ⟨a, dx, vs, b, dy, ws, rfl, rfl, ha, hb, q⟩ := h
  cases (show v = Value.ref a from rx)
  cases (show u = Value.ref b from ry)
  obtain ⟨sl, od, _, J, _⟩ := SlX.slt_inst I ha
  obtain ⟨sl', od', _, J', _⟩ := SlX.slt_inst I hb
  obtain ⟨m, hF⟩ := I.fr
  refine PySem.W.binop_K hF I.ok.mod.kin J J'.type sf hs hf ?_
  refine wpAny_mono (wpAny_call (run_fnR (us := [.ref a, .ref b]) (vs := [.ref a, .ref b]) F hr pass0 I (.cons rfl (.cons rfl .nil)) q)) (fun w s' z => ?_) fun _ _ x => x
  obtain ⟨z', H', I', rz, qz⟩ := z
  exact SlX.cmpback rz ⟨z', H', I', rz, qz⟩
theorem od_own {r : R2} (hr : ∀ x y H Q, (∃ a dx vs b dy ws, x = V.ref a ∧ y = V.ref b ∧ SlX.Slt H a C dx vs ∧ SlX.Slt H b C dy ws ∧ spD X.K S [x, y] H Q E0) → r x y H Q) (ia : InsD X.K C da) (ib : InsD X.K C db) (h : S [da, db] R) : OpD X r da db R := fun M H vx vy dom rx ry => by
  obtain ⟨a, dx, vs, ex, h1⟩ := ia _ _ rx
  obtain ⟨b, dy, ws, ey, h2⟩ := ib _ _ ry
  exact hr _ _ _ _ ⟨a, dx, vs, b, dy, ws, ex, ey, SlX_keep hid_ex h1, SlX_keep hid_ex h2, M, [da, db], R, dom, reps_mk rx (reps_mk ry (reps_nil.mpr rfl)), h, fun d v H2 rd e2 r => ⟨e2, d, rd, r⟩⟩
theorem v_binO {op : Operator} (cg : Cg P w K mg base k N sc X) (sf : PySem.W.selfFirst K C = true) (hs : PySem.W.findIn K (.ref C) (PySem.dunder op.info.2) = some (some (.ref g))) (hf : PySem.W.isFn K (.ref g) = true) (F : FnA P w K mg base n g S) (hn : n ≤ k)
    (ia : InsD K C da) (ib : InsD K C db) (ha : EvD X δ a da) (hb : EvD X δ b db) (h : S [da, db] R) : EvE X δ (.BinOp a op b pos) R := by
  obtain ⟨rfl, rfl, rfl, rfl, rfl, rfl, rfl, nd, room, calm, nox⟩ := cg
  exact v_op (op_ownB sf hs hf F (room.mono hn)) ha hb (d2 (od_own (fun _ _ _ _ q => q) ia ib h))
/-- -a -/
theorem un_ownN (hs : PySem.W.findIn X.K (.ref C) "__neg__" = some (some (.ref g))) (hf : PySem.W.isFn X.K (.ref g) = true) (F : FnR X.prog X.w X.K X.mg X.base CX0 n g sp) (hr : Room n X.A) :
    UnR X (unaryOp .USub) (fun x H Q => ∃ a dx vs, x = V.ref a ∧ SlX.Slt H a C dx vs ∧ sp [x] H Q E0) := by
  intro pins s σ H x v Q I rx h
  obtain ⟨a, dx, vs, rfl, ha, q⟩ := h
  cases (show v = Value.ref a from rx)
  obtain ⟨sl, od, _, J, _⟩ := SlX.slt_inst I ha
  obtain ⟨m, hF⟩ := I.fr
  exact PySem.W.ksp_neg hF I.ok.mod.kin J hs hf (wpAny_call (run_fnR (us := [.ref a]) (vs := [.ref a]) F hr pass0 I (.cons rfl .nil) q))
theorem v_negO (cg : Cg P w K mg base k N sc X) (hs : PySem.W.findIn K (.ref C) "__neg__" = some (some (.ref g))) (hf : PySem.W.isFn K (.ref g) = true) (F : FnA P w K mg base n g S) (hn : n ≤ k) (ia : InsD K C da) (ha : EvD X δ a da) (h : S [da] R) : EvE X δ (.UnaryOp .USub a pos) R := by
  obtain ⟨rfl, rfl, rfl, rfl, rfl, rfl, rfl, nd, room, calm, nox⟩ := cg
  exact v_un (un_ownN hs hf F (room.mono hn)) ha (d1 fun M H vx dom rx => by
    obtain ⟨a, dx, vs, ex, h1⟩ := ia _ _ rx
    exact ⟨a, dx, vs, ex, SlX_keep hid_ex h1, M, [da], R, dom, reps_mk rx (reps_nil.mpr rfl), h, fun d v H2 rd e2 r => ⟨e2, d, rd, r⟩⟩)
/-- a[b] -/
theorem ix_own (hs : PySem.W.findIn X.K (.ref C) "__getitem__" = some (some (.ref g))) (hfn : PySem.W.fnIn X.K g = true) (hf : PySem.W.isFn X.K (.ref g) = true) (F : FnR X.prog X.w X.K X.mg X.base CX0 n g sp) (hr : Room (n + 1) X.A) (hsl : ∀ i v, subscripted b true v i = runValue (.builtin "lifetime.subscript" ⟨[v, i], []⟩)) (ha : PE X a (tev X a)) :
    PE X (.Subscript a b pos) (fun σ H Q => tev X a σ H fun x H1 => tev X b σ H1 fun y H2 => ∃ a dx vs, x = V.ref a ∧ SlX.Slt H2 a C dx vs ∧ sp [x, y] H2 Q E0) := by
  refine ⟨fun pins s σ H Q I h => ?_⟩
  refine Subscript_ (binT pe_tev pe_tev I h fun v u s2 x y H2 I2 rx ry q => ?_)
  obtain ⟨l, dx, vs, rfl, h1, q⟩ := q
  cases (show v = Value.ref l from rx)
  obtain ⟨sl, od, _, J, _⟩ := SlX.slt_inst I2 h1
  obtain ⟨m, hF⟩ := I2.fr
  refine PySem.W.sub_K hF I2.ok.mod.kin J hs hfn hf (wpAny_call ?_) (hsl _ _)
  refine codeAny_mono (F X.A.in1 X.stack s2 H2 [.ref l, u] [.ref l, y] Q E0 hr.in1 I2.env0.in1 (.cons rfl (.cons ry .nil)) q) fun r s' hq => ?_
  cases r with
  | error e => exact False.elim hq
  | ok fl =>
    cases fl with
    | ret u => exact I2.after hq
    | next => exact False.elim hq
    | brk => exact False.elim hq
    | cont => exact False.elim hq
theorem v_itemO (cg : Cg P w K mg base k N sc X) (hs : PySem.W.findIn K (.ref C) "__getitem__" = some (some (.ref g))) (hfn : PySem.W.fnIn K g = true) (hf : PySem.W.isFn K (.ref g) = true) (F : FnA P w K mg base n g S) (hn : n + 1 ≤ k) (ia : InsD K C da)
    (ha : EvD X δ a da) (hb : EvD X δ b db) (h : S [da, db] R) (hsl : ∀ i v, subscripted b true v i = runValue (.builtin "lifetime.subscript" ⟨[v, i], []⟩) := by intro _ _; with_unfolding_all rfl) : EvE X δ (.Subscript a b pos) R := fun M0 M H0 σ H G => by
  obtain ⟨rfl, rfl, rfl, rfl, rfl, rfl, rfl, nd, room, calm, nox⟩ := cg
  refine tev_of (ix_own hs hfn hf F (room.mono hn) hsl pe_tev) (ev2 ha hb G fun vx vy dx dy H2 e r1 r2 q1 q2 g2 => ?_)
  cases r1
  cases r2
  obtain ⟨l, dl, vs, ex, h1⟩ := ia _ _ q1
  exact ⟨l, dl, vs, ex, SlX_keep hid_ex h1, M, [da, db], R, g2.dom, reps_mk q1 (reps_mk q2 (reps_nil.mpr rfl)), h, fun d v H3 rd e3 r => ⟨e.trans e3, d, rd, r⟩⟩
/-- a(b): an own __call__ -/
theorem v_callO (cg : Cg P w K mg base k N sc X) (co : StX.CallO K C g) (F : FnA P w K mg base n g S) (hn : n ≤ k) (ia : InsD K C da) (hfe : EvD X δ a da) (ha : EvA X δ (e :: es) Rs) (h : ∀ ds, Rs ds → S (da :: ds) R)
    (ht : eval (.Call a (e :: es) [] pos) X.env = (do callWith pos (← eval a X.env) [] (backTo pos (starEach (e :: es) X.env)) (backToKw pos (keywordEach [] X.env))) := by rfl)
    (he : starEach (e :: es) X.env = (false, eval e X.env) :: starEach es X.env := by rfl) (hpl : (backTo pos (starEach es X.env)).any (·.1) = false := by rfl) : EvE X δ (.Call a (e :: es) [] pos) R := fun M0 M H0 σ H G => by
  obtain ⟨rfl, rfl, rfl, rfl, rfl, rfl, rfl, nd, room, calm, nox⟩ := cg
  refine tev_of (StX.pe_callO (CX := CX0) (E := E0) pe_tev co F (room.mono hn) pass0 pa_tea ht he hpl) (tev_mono (hfe M0 M H0 σ H G) fun v H1 ⟨e1, d', ed, q⟩ => ?_)
  cases ed
  obtain ⟨l, dl, vs, ex, h1⟩ := ia _ _ q
  subst ex
  refine ⟨l, rfl, tea_mono (ha M0 M H0 σ H1 (G.grow e1)) fun ws H2 ⟨e2, ds, rs, q2⟩ => ⟨.inl ⟨dl, vs, SlX_keep (hid_ex.trans e2) h1⟩, ?_⟩⟩
  exact ⟨M, da :: ds, R, ((G.grow e1).grow e2).dom, reps_mk (rep_mono (hid_mono e2) q) q2, h ds rs, fun d2 v H3 rd e3 r => ⟨(e1.trans e2).trans e3, d2, rd, r⟩⟩
/-- a == b by an own __eq__ -/
theorem op_ownE (hs : PySem.W.findIn X.K (.ref C) "__eq__" = some (some (.ref g))) (hf : PySem.W.isFn X.K (.ref g) = true) (hq : PySem.W.notFirst X.K C (.ref C) = true) (F : FnR X.prog X.w X.K X.mg X.base CX0 n g sp) (hr : Room n X.A) : OpR X (compareOp .Eq) (rOwnB C sp) :=
  fun pins s σ H x y v u Q I rx ry ⟨a, dx, vs, b, dy, ws, ex, ey, ha, hb, q⟩ => SlX.op_own (op := .Eq) (CX := CX0) (E := E0) (fun _ _ => rfl) hs hf F hr pass0 pins s σ H x y v u Q I rx ry ⟨a, dx, vs, b, C, dy, ws, ex, ey, ha, hb, hq, q⟩
theorem v_eqO {q : Bool} (cg : Cg P w K mg base k N sc X) (hs : PySem.W.findIn K (.ref C) "__eq__" = some (some (.ref g))) (hf : PySem.W.isFn K (.ref g) = true) (hq : PySem.W.notFirst K C (.ref C) = true) (F : FnA P w K mg base n g S) (hn : n ≤ k)
    (ia : InsD K C da) (ib : InsD K C db) (ha : EvD X δ a da) (hb : EvD X δ b db) (h : S [da, db] (is_ (.bl q))) : EvD X δ (.Compare a [.Eq] [b] pos) (.bl q) := by
  obtain ⟨rfl, rfl, rfl, rfl, rfl, rfl, rfl, nd, room, calm, nox⟩ := cg
  exact v_cmp (op_ownE hs hf hq F (room.mono hn)) ha hb (d2 (od_own (fun _ _ _ _ q => q) ia ib h)) (nomark _)
theorem t_eqO {q : Bool} (cg : Cg P w K mg base k N sc X) (hs : PySem.W.findIn K (.ref C) "__eq__" = some (some (.ref g))) (hf : PySem.W.isFn K (.ref g) = true) (hq : PySem.W.notFirst K C (.ref C) = true) (F : FnA P w K mg base n g S) (hn : n ≤ k)
    (ia : InsD K C da) (ib : InsD K C db) (ha : EvD X δ a da) (hb : EvD X δ b db) (h : S [da, db] (is_ (.bl q))) : EvT X δ (.Compare a [.Eq] [b] pos) q := by
  obtain ⟨rfl, rfl, rfl, rfl, rfl, rfl, rfl, nd, room, calm, nox⟩ := cg
  exact t_cmp (op_ownE hs hf hq F (room.mono hn)) ha hb (d2 (od_own (fun _ _ _ _ q => q) ia ib h)) (nomark _)
/-! ### isinstance(x, C) -/
theorem v_isiO {q : Bool} {T : Addr} (sc1 : SlX.SCls X.K C) (si : SlX.SIsi X.K C) (hk : PySem.W.kitOne X.K (.ref C) (.ref T) = some q) (ia : InsD X.K C da) (ha : EvD X δ a da) (hb : EvD X δ b (.val (.ref T))) (hm : X.mg "isinstance" = none := by first | assumption | exact Cg.bf (by assumption) (by assumption) rfl) (hg : Gl X "isinstance" := by first | rfl | exact Cg.gl (by assumption) rfl)
    (he : starEach [a, b] X.env = (false, eval a X.env) :: starEach [b] X.env := by rfl) (he2 : starEach [b] X.env = (false, eval b X.env) :: starEach [] X.env := by rfl) (hpl : (backTo pos (starEach [b] X.env)).any (·.1) = false := by rfl) : EvD X δ (.Call (.Name "isinstance" p) [a, b] [] pos) (.bl q) :=
  v_callB (SlX.call_isiSl (.ref T)) hm (by decide +kernel) (a_d ha (a_d hb a_nil he2) he) (cd1 fun M H vs dom r => by
    obtain ⟨v, u, rfl, r1, r2⟩ := two_of r
    obtain ⟨aa, dx, vals, ev, h1⟩ := ia _ _ r1
    rw [rep_val.mp r2, ev]
    exact ⟨aa, C, dx, vals, V.ref T, q, rfl, rfl, fun w hw => hw, SlX_keep hid_ex h1, sc1, si, hk, Ex.rfl, _, rfl, rb _⟩) hg (by decide) (by decide) he hpl
/-- of a value of a built-in type -/
theorem v_isiB {q : Bool} {u t : Value} {cv : V} (hc : ClsV cv u) (hk : PySem.W.kitOne X.K t u = some q) (ty : ∀ v H, rep X.K da v H → TyX X.K H v t) (ha : EvD X δ a da) (hb : EvD X δ b (.val cv)) (hm : X.mg "isinstance" = none := by first | assumption | exact Cg.bf (by assumption) (by assumption) rfl) (hg : Gl X "isinstance" := by first | rfl | exact Cg.gl (by assumption) rfl)
    (he : starEach [a, b] X.env = (false, eval a X.env) :: starEach [b] X.env := by rfl) (he2 : starEach [b] X.env = (false, eval b X.env) :: starEach [] X.env := by rfl) (hpl : (backTo pos (starEach [b] X.env)).any (·.1) = false := by rfl) : EvD X δ (.Call (.Name "isinstance" p) [a, b] [] pos) (.bl q) :=
  v_callB call_isi hm (by decide +kernel) (a_d ha (a_d hb a_nil he2) he) (cd1 fun M H vs dom r => by
    obtain ⟨v, z, rfl, r1, r2⟩ := two_of r
    rw [rep_val.mp r2]
    exact ⟨v, cv, t, u, q, rfl, hc, ty _ _ (rep_mono hid_ex r1), hk, Ex.rfl, _, rfl, rb _⟩) hg (by decide) (by decide) he hpl
end
end DL

namespace DL
open PySem PySem.Spec PyProof.Rows L2

section
variable {K : PySem.W.Frag} {M0 M : List Addr} {H0 H H' : Hp} {δ δx : List Sl} {σ σx : L2.St}
/-- fewer slots -/
theorem Sg.cut (g : Sg K M0 M H0 (δ ++ δx) (σ ++ σx) H) (hl : δ.length = σ.length) : Sg K M0 M H0 δ σ H := by
  have up : ∀ {i : Nat} {s : Sl}, δ[i]? = some s → (δ ++ δx)[i]? = some s ∧ (σ ++ σx)[i]? = σ[i]? := fun {i s} h => by
    have hi : i < δ.length := (List.getElem?_eq_some_iff.mp h).1
    exact ⟨by rw [List.getElem?_append_left hi]; exact h, List.getElem?_append_left (by omega)⟩
  refine ⟨g.ext, g.sub, g.own, g.dom, hl, fun i d h => ?_, fun i ds h => ?_, fun i C fs h => ?_, fun i j di dj ne h1 h2 => ?_⟩
  · obtain ⟨u1, u2⟩ := up h
    obtain ⟨v, q⟩ := g.is_im i d u1
    rw [u2] at q
    exact ⟨v, q⟩
  · obtain ⟨u1, u2⟩ := up h
    obtain ⟨l, xs, q⟩ := g.is_mu i ds u1
    rw [u2] at q
    exact ⟨l, xs, q⟩
  · obtain ⟨u1, u2⟩ := up h
    obtain ⟨a, dx, vals, q⟩ := g.is_ob i C fs u1
    rw [u2] at q
    exact ⟨a, dx, vals, q⟩
  · obtain ⟨u1, u2⟩ := up h1
    obtain ⟨u3, u4⟩ := up h2
    have q := g.apart i j di dj ne u1 u3
    rw [u2, u4] at q
    exact q
theorem sig_push {δ : List Sl} {σ : L2.St} (hl : δ.length = σ.length) {i : Nat} {s s' : Sl} {o : Option V} (h : (δ ++ [s])[i]? = some s') : (i < δ.length ∧ δ[i]? = some s' ∧ (σ ++ [o])[i]? = σ[i]?) ∨ (i = δ.length ∧ s = s' ∧ (σ ++ [o])[i]? = some o) := by
  by_cases hi : i < δ.length
  · rw [List.getElem?_append_left hi] at h
    exact .inl ⟨hi, h, List.getElem?_append_left (by omega)⟩
  · have hi2 : i < (δ ++ [s]).length := (List.getElem?_eq_some_iff.mp h).1
    rw [List.length_append, List.length_singleton] at hi2
    have e : i = δ.length := by omega
    subst e
    rw [List.getElem?_append_right (Nat.le_refl _), Nat.sub_self] at h
    have h' : s = s' := by simpa using h
    refine .inr ⟨rfl, h', ?_⟩
    rw [hl, List.getElem?_append_right (Nat.le_refl _), Nat.sub_self]
    rfl
/-- one more slot, of data -/
theorem Sg.push_im (g : Sg K M0 M H0 δ σ H) {d : Dt} {v : V} (r : rep K d v (hid M H)) : Sg K M0 M H0 (δ ++ [.im d]) (σ ++ [some v]) H := by
  refine ⟨g.ext, g.sub, g.own, g.dom, by simp [g.len], fun i d' h => ?_, fun i ds h => ?_, fun i C fs h => ?_, fun i j di dj ne h1 h2 => ?_⟩
  · rcases sig_push (o := some v) g.len h with ⟨h1, h2, h3⟩ | ⟨h1, h2, h3⟩
    · rw [h3]
      exact g.is_im i d' h2
    · cases h2
      rw [h3]
      exact ⟨v, rfl, r⟩
  · rcases sig_push (o := some v) g.len h with ⟨h1, h2, h3⟩ | ⟨h1, h2, h3⟩
    · rw [h3]
      exact g.is_mu i ds h2
    · cases h2
  · rcases sig_push (o := some v) g.len h with ⟨h1, h2, h3⟩ | ⟨h1, h2, h3⟩
    · rw [h3]
      exact g.is_ob i C fs h2
    · cases h2
  · rcases sig_push (o := some v) g.len h1 with ⟨a1, a2, a3⟩ | ⟨a1, a2, a3⟩
    · rcases sig_push (o := some v) g.len h2 with ⟨b1, b2, b3⟩ | ⟨b1, b2, b3⟩
      · rw [a3, b3]
        exact g.apart i j di dj ne a2 b2
      · cases b2
    · cases a2
/-- one more slot, nothing known -/
theorem Sg.push_no (g : Sg K M0 M H0 δ σ H) (o : Option V) : Sg K M0 M H0 (δ ++ [.no]) (σ ++ [o]) H := by
  refine ⟨g.ext, g.sub, g.own, g.dom, by simp [g.len], fun i d' h => ?_, fun i ds h => ?_, fun i C fs h => ?_, fun i j di dj ne h1 h2 => ?_⟩
  · rcases sig_push (o := o) g.len h with ⟨h1, h2, h3⟩ | ⟨h1, h2, h3⟩
    · rw [h3]
      exact g.is_im i d' h2
    · cases h2
  · rcases sig_push (o := o) g.len h with ⟨h1, h2, h3⟩ | ⟨h1, h2, h3⟩
    · rw [h3]
      exact g.is_mu i ds h2
    · cases h2
  · rcases sig_push (o := o) g.len h with ⟨h1, h2, h3⟩ | ⟨h1, h2, h3⟩
    · rw [h3]
      exact g.is_ob i C fs h2
    · cases h2
  · rcases sig_push (o := o) g.len h1 with ⟨a1, a2, a3⟩ | ⟨a1, a2, a3⟩
    · rcases sig_push (o := o) g.len h2 with ⟨b1, b2, b3⟩ | ⟨b1, b2, b3⟩
      · rw [a3, b3]
        exact g.apart i j di dj ne a2 b2
      · cases b2
    · cases a2
/-- one more slot, a new list -/
theorem Sg.push_mu (g : Sg K M0 M H0 δ σ H) {ds : List Dt} {l : Addr} {xs : List V} (hn : H l = none) (r : reps K ds xs (hid M H)) : Sg K M0 (l :: M) H0 (δ ++ [.mu ds]) (σ ++ [some (V.ref l)]) (upd H l (.lst xs)) := by
  have h := (g.push_no none).new_mu δ.length hn r
  rw [show (δ ++ [Sl.no]).set δ.length (Sl.mu ds) = δ ++ [Sl.mu ds] by simp] at h
  rw [show (σ ++ [(none : Option V)]).set δ.length (some (V.ref l)) = σ ++ [some (V.ref l)] by rw [g.len]; simp] at h
  exact h
/-- the first of the further slots is moved into slot i -/
theorem Sg.move {s : Sl} {o : Option V} {δr : List Sl} {σr : L2.St} (g : Sg K M0 M H0 (δ ++ s :: δr) (σ ++ o :: σr) H) (hl : δ.length = σ.length) (i : Nat) (hi : i < δ.length) : Sg K M0 M H0 (δ.set i s ++ δr) (σ.set i o ++ σr) H := by
  -- where a slot of the new state stood
  have key : ∀ {j : Nat} {t : Sl}, (δ.set i s ++ δr)[j]? = some t → ∃ m, (δ ++ s :: δr)[m]? = some t ∧ (σ.set i o ++ σr)[j]? = (σ ++ o :: σr)[m]? ∧ ((j < δ.length ∧ j = i ∧ m = δ.length) ∨ (j < δ.length ∧ j ≠ i ∧ m = j) ∨ (δ.length ≤ j ∧ m = j + 1)) := fun {j t} h => by
    by_cases hj : j < δ.length
    · by_cases e : j = i
      · subst e
        rw [List.getElem?_append_left (by simpa using hj), List.getElem?_set_self hj] at h
        refine ⟨δ.length, ?_, ?_, .inl ⟨hj, rfl, rfl⟩⟩
        · rw [List.getElem?_append_right (Nat.le_refl _), Nat.sub_self, ← h]
          rfl
        · rw [List.getElem?_append_left (by simp; omega), List.getElem?_set_self (by omega), hl, List.getElem?_append_right (Nat.le_refl _), Nat.sub_self]
          rfl
      · rw [List.getElem?_append_left (by simpa using hj), List.getElem?_set_ne (Ne.symm e)] at h
        refine ⟨j, ?_, ?_, .inr (.inl ⟨hj, e, rfl⟩)⟩
        · rw [List.getElem?_append_left hj]
          exact h
        · rw [List.getElem?_append_left (by simp; omega), List.getElem?_set_ne (Ne.symm e), List.getElem?_append_left (by omega)]
    · rw [List.getElem?_append_right (by simp; omega), List.length_set] at h
      refine ⟨j + 1, ?_, ?_, .inr (.inr ⟨by omega, rfl⟩)⟩
      · rw [List.getElem?_append_right (by omega), show j + 1 - δ.length = (j - δ.length) + 1 by omega, List.getElem?_cons_succ]
        exact h
      · rw [List.getElem?_append_right (by simp; omega), List.length_set, List.getElem?_append_right (by omega), show j + 1 - σ.length = (j - σ.length) + 1 by omega, List.getElem?_cons_succ]
  refine ⟨g.ext, g.sub, g.own, g.dom, ?_, fun j d h => ?_, fun j ds h => ?_, fun j C fs h => ?_, fun j k dj dk ne h1 h2 => ?_⟩
  · have := g.len
    simp only [List.length_append, List.length_cons, List.length_set] at this ⊢
    omega
  · obtain ⟨m, k1, k2, _⟩ := key h
    rw [k2]
    exact g.is_im m d k1
  · obtain ⟨m, k1, k2, _⟩ := key h
    rw [k2]
    exact g.is_mu m ds k1
  · obtain ⟨m, k1, k2, _⟩ := key h
    rw [k2]
    exact g.is_ob m C fs k1
  · obtain ⟨m1, a1, a2, a3⟩ := key h1
    obtain ⟨m2, b1, b2, b3⟩ := key h2
    rw [a2, b2]
    refine g.apart m1 m2 dj dk ?_ a1 b1
    omega
end

section
variable {X : Cx} {δ : List Sl} {a b c e o : Expr} {es : List Expr} {pos apos : Pos} {Ra Rb Rc R R' : Dt → Prop} {Rs : List Dt → Prop} {i j : Int} {x y z fl : Str} {p : Pos} {ds : List Dt} {d da db : Dt} {D : DEnds} {rest body : List Stmt} {ss : List Sl}
/-- arguments by slots: data or new lists -/
def EvS (X : Cx) (δ : List Sl) (es : List Expr) (ss : List Sl) : Prop := ∀ M0 M H0 σ H δx σx, δ.length = σ.length → Sg X.K M0 M H0 (δ ++ δx) (σ ++ σx) H → tea X es σ H fun xs H2 => ∃ M', Sg X.K M0 M' H0 (δ ++ (δx ++ ss)) (σ ++ (σx ++ xs.map some)) H2
theorem s_nil : EvS X δ [] [] := fun M0 M H0 σ H δx σx hl g => tea_of pa_nil ⟨M, by rw [List.append_nil, List.map_nil, List.append_nil]; exact g⟩
theorem s_im (h : EvD X δ e d) (h2 : EvS X δ es ss) (hs : starEach (e :: es) X.env = (false, eval e X.env) :: starEach es X.env := by rfl) : EvS X δ (e :: es) (.im d :: ss) := fun M0 M H0 σ H δx σx hl g =>
  tea_of (pa_cons pe_tev pa_tea hs) (tev_mono (h M0 M H0 σ H (g.cut hl)) fun v H1 ⟨e1, d', ed, q⟩ => by
    cases ed
    have g2 := (g.grow e1).push_im q
    rw [List.append_assoc, List.append_assoc] at g2
    refine tea_mono (h2 M0 M H0 σ H1 _ _ hl g2) fun xs H2 ⟨M', g3⟩ => ⟨M', ?_⟩
    rw [List.append_assoc, List.append_assoc] at g3
    exact g3)
theorem s_mu (h : EvL X δ e ds) (h2 : EvS X δ es ss) (hs : starEach (e :: es) X.env = (false, eval e X.env) :: starEach es X.env := by rfl) : EvS X δ (e :: es) (.mu ds :: ss) := fun M0 M H0 σ H δx σx hl g =>
  tea_of (pa_cons pe_tev pa_tea hs) (tev_mono (h M0 M H0 σ H (g.cut hl)) fun v H2 ⟨l, xs, H1, ev, e1, hn, eh, q⟩ => by
    subst ev eh
    have g2 := (g.grow e1).push_mu hn q
    rw [List.append_assoc, List.append_assoc] at g2
    refine tea_mono (h2 M0 _ H0 σ _ _ _ hl g2) fun xs H2 ⟨M', g3⟩ => ⟨M', ?_⟩
    rw [List.append_assoc, List.append_assoc] at g3
    exact g3)

/-! ### blocks -/
theorem r_of {st : Stmt} {t : TS} (hs : PS X st t) (h : ∀ M0 M H0 σ H, Sg X.K M0 M H0 δ σ H → t { dEnds X.K M0 H0 D with nx := tes X rest (dEnds X.K M0 H0 D) } σ H) : RunS X δ (st :: rest) D := fun M0 M H0 σ H g => tes_of (pss_cons hs pss_tes) (h M0 M H0 σ H g)
theorem r_nil (h : D.nx δ) : RunS X δ [] D := fun M0 M H0 σ H g => tes_of pss_nil ⟨M, δ, h, g⟩
theorem RunS.mono {D' : DEnds} (h : RunS X δ rest D) (k1 : ∀ δ, D.nx δ → D'.nx δ) (k2 : ∀ d, D.rt d → D'.rt d) (k3 : ∀ δ, D.bk δ → D'.bk δ) (k4 : ∀ δ, D.ct δ → D'.ct δ) : RunS X δ rest D' := fun M0 M H0 σ H g =>
  tes_mono (h M0 M H0 σ H g) (fun _ _ ⟨M, δ, q, g⟩ => ⟨M, δ, k1 _ q, g⟩) (fun _ _ ⟨d, q, g⟩ => ⟨d, k2 _ q, g⟩) (fun _ _ ⟨M, δ, q, g⟩ => ⟨M, δ, k3 _ q, g⟩) (fun _ _ ⟨M, δ, q, g⟩ => ⟨M, δ, k4 _ q, g⟩)
/-- a changing list becomes data -/
theorem r_freeze (n : Nat) (hd : δ[n]? = some (Sl.mu ds)) (h : RunS X (δ.set n (.im (.lst ds))) rest D) : RunS X δ rest D := fun M0 M H0 σ H g => by
  obtain ⟨M', g'⟩ := g.freeze hd
  exact h M0 M' H0 σ H g'
theorem rep_sub {K : PySem.W.Frag} {M0 M : List Addr} {H : Hp} {v : V} (h : rep K d v (hid M H)) (hs : ∀ l ∈ M0, l ∈ M) : rep K d v (hid M0 H) := rep_mono (hid_sub hs) h
theorem r_ret (h : EvE X δ e D.rt) : RunS X δ (.Return (some e) pos :: rest) D := fun M0 M H0 σ H g =>
  tes_of (pss_cons (ps_ret pe_tev) pss_never) (tev_mono (h M0 M H0 σ H g) fun v H2 ⟨e2, d, rd, q⟩ => ⟨d, rd, g.ext.trans e2, rep_sub q g.sub⟩)
theorem r_retD (h : EvD X δ e d) (k : D.rt d) : RunS X δ (.Return (some e) pos :: rest) D := r_ret (h.mono fun x e => e ▸ k)
theorem r_retN (h : D.rt .non) : RunS X δ (.Return none pos :: rest) D := fun M0 M H0 σ H g => tes_of (pss_cons ps_retN pss_never) ⟨.non, h, g.ext, rep_non.mpr rfl⟩
theorem r_expr (h : EvE X δ e R) (k : RunS X δ rest D) (hs : swapsWith e none pos.line X.env = pure false := by rfl) : RunS X δ (.Expr e pos :: rest) D :=
  r_of (ps_expr pe_tev hs) fun M0 M H0 σ H g => tev_mono (h M0 M H0 σ H g) fun v H2 ⟨e2, _⟩ => k M0 M H0 σ H2 (g.grow e2)
theorem r_pass (k : RunS X δ rest D) : RunS X δ (.Pass pos :: rest) D := r_of ps_pass fun M0 M H0 σ H g => k M0 M H0 σ H g
theorem r_break (k : D.bk δ) : RunS X δ (.Break pos :: rest) D := fun M0 M H0 σ H g => tes_of (pss_cons ps_break pss_never) ⟨M, δ, k, g⟩
theorem r_continue (k : D.ct δ) : RunS X δ (.Continue pos :: rest) D := fun M0 M H0 σ H g => tes_of (pss_cons ps_continue pss_never) ⟨M, δ, k, g⟩
variable {P : Program} {w : World} {K : PySem.W.Frag} {mg : Str → Option Value} {base : Heap} {k n m q : Nat} {N : List Str} {sc : Scope}
/-- a name is to be stored by its slot -/
structure Nm (X : Cx) (n : Nat) (x : Str) : Prop where
  at_ : X.N[n]? = some x
  loc : Loc X.env.scope x
  fn : X.fn x = true ∨ X.env.scope.names.lookup x = some .local
theorem Cg.nmL (cg : Cg P w K mg base k N sc X) (h : N[n]? = some x) (h2 : sc.names.lookup x = some .local) : Nm X n x :=
  ⟨cg.na h, .inl (by rw [cg.scp]; exact h2), .inr (by rw [cg.scp]; exact h2)⟩
theorem Cg.nmC (cg : Cg P w K mg base k N sc X) (hf : ∀ x, X.fn x = true) (h : N[n]? = some x) (h2 : sc.names.lookup x = some .cell) : Nm X n x :=
  ⟨cg.na h, .inr (by rw [cg.scp]; exact h2), .inl (hf x)⟩
theorem r_set (n : Nat) (cg : Cg P w K mg base k N sc X) (h : EvE X δ e R) (kk : ∀ d, R d → RunS X (δ.set n (.im d)) rest D) (hx : Nm X n x := by first | exact Cg.nmL (by assumption) rfl rfl | exact Cg.nmC (by assumption) (by assumption) rfl rfl) {px : Pos} (hs : swapsWith e (some (.Name x px)) pos.line X.env = pure false := by rfl) : RunS X δ (.Assign [.Name x px] e pos :: rest) D :=
  r_of (ps_set (cg.nm ▸ cg.nd) hx.at_ hx.loc pe_tev hs hx.fn) fun M0 M H0 σ H g => tev_mono (h M0 M H0 σ H g) fun v H2 ⟨e2, d, rd, q⟩ => kk d rd M0 M H0 _ H2 ((g.grow e2).set_im n q)
theorem r_setD (n : Nat) (cg : Cg P w K mg base k N sc X) (h : EvD X δ e d) (kk : RunS X (δ.set n (.im d)) rest D) (hx : Nm X n x := by first | exact Cg.nmL (by assumption) rfl rfl | exact Cg.nmC (by assumption) (by assumption) rfl rfl) {px : Pos} (hs : swapsWith e (some (.Name x px)) pos.line X.env = pure false := by rfl) : RunS X δ (.Assign [.Name x px] e pos :: rest) D :=
  r_set n cg h (fun _ e => e ▸ kk) hx hs
/-- a new list, to be changed -/
theorem r_setM (n : Nat) (cg : Cg P w K mg base k N sc X) (h : EvL X δ e ds) (kk : RunS X (δ.set n (.mu ds)) rest D) (hx : Nm X n x := by first | exact Cg.nmL (by assumption) rfl rfl | exact Cg.nmC (by assumption) (by assumption) rfl rfl) {px : Pos} (hs : swapsWith e (some (.Name x px)) pos.line X.env = pure false := by rfl) : RunS X δ (.Assign [.Name x px] e pos :: rest) D :=
  r_of (ps_set (cg.nm ▸ cg.nd) hx.at_ hx.loc pe_tev hs hx.fn) fun M0 M H0 σ H g => tev_mono (h M0 M H0 σ H g) fun v H2 ⟨l, xs, H1, ev, e1, hn, eh, q⟩ => by
    subst ev eh
    exact kk M0 _ H0 _ _ ((g.grow e1).new_mu n hn q)
theorem r_if {k : Bool} {u v : List Stmt} (h : EvT X δ c k) (h1 : k = true → RunS X δ u { D with nx := fun δ' => RunS X δ' rest D }) (h2 : k = false → RunS X δ v { D with nx := fun δ' => RunS X δ' rest D }) : RunS X δ (.If c u v pos :: rest) D :=
  r_of (ps_if pt_tet pss_tes pss_tes) fun M0 M H0 σ H g => tet_mono (h M0 M H0 σ H g) fun c H2 ⟨e2, ec⟩ => by
    subst ec
    have go : ∀ {w : List Stmt}, RunS X δ w { D with nx := fun δ' => RunS X δ' rest D } → tes X w { dEnds X.K M0 H0 D with nx := tes X rest (dEnds X.K M0 H0 D) } σ H2 := fun {w} h =>
      tes_mono (h M0 M H0 σ H2 (g.grow e2)) (fun σ' H' ⟨M', δ', q, g'⟩ => q M0 M' H0 σ' H' g') (fun _ _ q => q) (fun _ _ q => q) fun _ _ q => q
    cases c with
    | true =>
      rw [if_pos rfl]
      exact go (h1 rfl)
    | false =>
      rw [if_neg Bool.false_ne_true]
      exact go (h2 rfl)
/-- a, b = e1, e2 without a tuple; three -/
theorem r_par {px py pt pt2 : Pos} {kt k2 : Nat} {s1 s2 : Sl} (cg : Cg P w K mg base k N sc X) (h : EvS X δ [a, b] [s1, s2]) (hn : X.N[n]? = some x) (hm : X.N[m]? = some y) (hx : X.env.scope.names.lookup x = some .local) (hy : X.env.scope.names.lookup y = some .local) (hnm : n ≠ m) (kk : RunS X ((δ.set n s1).set m s2) rest D)
    (hl : n < δ.length ∧ m < δ.length) (hw : swappedStores [.Tuple [.Name x px, .Name y py] kt pt] (.Tuple [a, b] k2 pt2) X.env = pure (some [x, y]))
    (hs : swapsWithSole [.Tuple [.Name x px, .Name y py] kt pt] (.Tuple [a, b] k2 pt2) pos.line X.env = pure false := by rfl) : RunS X δ (.Assign [.Tuple [.Name x px, .Name y py] kt pt] (.Tuple [a, b] k2 pt2) pos :: rest) D :=
  r_of (ps_par cg.calm (cg.nm ▸ cg.nd) hn hm hnm hx hy pa_tea hw hs) fun M0 M H0 σ H g => tea_mono (h M0 M H0 σ H [] [] g.len (by rw [List.append_nil, List.append_nil]; exact g)) fun vs H2 ⟨M', g2⟩ => by
    have hlen := g2.len
    simp only [List.length_append, List.length_cons, List.length_nil, List.length_map] at hlen
    have h2 : vs.length = 2 := by have := g.len; omega
    match vs, h2 with
    | [v, w], _ =>
      refine ⟨v, w, rfl, kk M0 M' H0 _ H2 ?_⟩
      have g3 := Sg.move (δr := [s2]) (σr := [some w]) g2 g.len n hl.1
      have g4 := Sg.move (δr := []) (σr := []) g3 (by rw [List.length_set, List.length_set]; exact g.len) m (by rw [List.length_set]; exact hl.2)
      rw [List.append_nil, List.append_nil] at g4
      exact g4
theorem r_par3 {px py pz pt pt2 : Pos} {kt k2 : Nat} {s1 s2 s3 : Sl} (cg : Cg P w K mg base k N sc X) (h : EvS X δ [a, b, c] [s1, s2, s3]) (hn : X.N[n]? = some x) (hm : X.N[m]? = some y) (hq : X.N[q]? = some z) (hx : X.env.scope.names.lookup x = some .local) (hy : X.env.scope.names.lookup y = some .local) (hz : X.env.scope.names.lookup z = some .local)
    (hnm : n ≠ m) (hnq : n ≠ q) (hmq : m ≠ q) (kk : RunS X (((δ.set n s1).set m s2).set q s3) rest D)
    (hl : n < δ.length ∧ m < δ.length ∧ q < δ.length) (hw : swappedStores [.Tuple [.Name x px, .Name y py, .Name z pz] kt pt] (.Tuple [a, b, c] k2 pt2) X.env = pure (some [x, y, z]))
    (hs : swapsWithSole [.Tuple [.Name x px, .Name y py, .Name z pz] kt pt] (.Tuple [a, b, c] k2 pt2) pos.line X.env = pure false := by rfl) : RunS X δ (.Assign [.Tuple [.Name x px, .Name y py, .Name z pz] kt pt] (.Tuple [a, b, c] k2 pt2) pos :: rest) D :=
  r_of (ps_par3 cg.calm (cg.nm ▸ cg.nd) hn hm hq hnm hnq hmq hx hy hz pa_tea hw hs) fun M0 M H0 σ H g => tea_mono (h M0 M H0 σ H [] [] g.len (by rw [List.append_nil, List.append_nil]; exact g)) fun vs H2 ⟨M', g2⟩ => by
    have hlen := g2.len
    simp only [List.length_append, List.length_cons, List.length_nil, List.length_map] at hlen
    have h2 : vs.length = 3 := by have := g.len; omega
    match vs, h2 with
    | [v, w, u], _ =>
      refine ⟨v, w, u, rfl, kk M0 M' H0 _ H2 ?_⟩
      have g3 := Sg.move (δr := [s2, s3]) (σr := [some w, some u]) g2 g.len n hl.1
      have g4 := Sg.move (δr := [s3]) (σr := [some u]) g3 (by rw [List.length_set, List.length_set]; exact g.len) m (by rw [List.length_set]; exact hl.2.1)
      have g5 := Sg.move (δr := []) (σr := []) g4 (by rw [List.length_set, List.length_set, List.length_set, List.length_set]; exact g.len) q (by rw [List.length_set, List.length_set]; exact hl.2.2)
      rw [List.append_nil, List.append_nil] at g5
      exact g5
end
end DL

namespace DL
open PySem PySem.Spec PyProof.Rows L2

/-! ### targets and walks, as readings -/
def tpg (X : Cx) (tg : Expr) : TG := fun v σ H Q => ∀ pins s u, Inv X pins σ H s → RelV v u → wpAny (model X.prog X.w) X.A (assign tg X.env u) (fun _ s' => ∃ σ' H', Inv X pins σ' H' s' ∧ Q σ' H') X.xe s
def tpi (X : Cx) (tg iter : Expr) : TI := fun σ H R => ∀ pins s, Inv X pins σ H s → wpAny (model X.prog X.w) X.A (eval iter X.env) (fun v s1 => wpAny (model X.prog X.w) X.A (pyIter v) (PIE X pins σ tg R) X.xe s1) X.xe s
section
variable {X : Cx} {tg e iter : Expr} {σ : L2.St} {H : Hp}
theorem pg_tpg : PG X tg (tpg X tg) := ⟨fun pins s σ H v u Q I r h => h pins s u I r⟩
theorem pi_tpi : PI X tg iter (tpi X tg iter) := ⟨fun pins s σ H R I h => h pins s I⟩
theorem tpg_of {t : TG} {v : V} {Q : L2.St → Hp → Prop} (h : PG X tg t) (q : t v σ H Q) : tpg X tg v σ H Q := fun pins s u I r => h.run pins s σ H v u Q I r q
theorem tpi_of {t : TI} {R : It → Hp → Prop} (h : PI X tg iter t) (q : t σ H R) : tpi X tg iter σ H R := fun pins s I => h.run pins s σ H R I q
theorem tpg_mono {v : V} {Q Q' : L2.St → Hp → Prop} (h : tpg X tg v σ H Q) (k : ∀ σ H, Q σ H → Q' σ H) : tpg X tg v σ H Q' := fun pins s u I r => thn (h pins s u I r) fun _ _ ⟨σ', H', I', q⟩ => ⟨σ', H', I', k _ _ q⟩
theorem tpi_mono {R R' : It → Hp → Prop} (h : tpi X tg iter σ H R) (k : ∀ J H, R J H → R' J H) : tpi X tg iter σ H R' := fun pins s I => thn (h pins s I) fun v s1 h1 => thn h1 fun itv s2 ⟨it, fp, tn, J, H', a, b, c, d, f, r⟩ => ⟨it, fp, tn, J, H', a, b, c, d, f, k _ _ r⟩
end

/-! ### several slots at once -/
def setS (δ : List Sl) : List Nat → List Sl → List Sl
  | i :: is, s :: ss => setS (δ.set i s) is ss
  | _, _ => δ
def setO (σ : L2.St) : List Nat → List V → L2.St
  | i :: is, v :: vs => setO (σ.set i (some v)) is vs
  | _, _ => σ
theorem setO_len : ∀ (is : List Nat) (vs : List V) (σ : L2.St), (setO σ is vs).length = σ.length
  | [], _, _ => rfl
  | _ :: _, [], _ => rfl
  | i :: is, v :: vs, σ => by
    show (setO (σ.set i (some v)) is vs).length = _
    rw [setO_len is vs, List.length_set]
section
variable {K : PySem.W.Frag} {M0 M : List Addr} {H0 H H' : Hp} {δ δx : List Sl} {σ σx : L2.St}
theorem Sg.moves : ∀ (is : List Nat) (ss : List Sl) (vs : List V) {δ : List Sl} {σ : L2.St}, Sg K M0 M H0 (δ ++ ss) (σ ++ vs.map some) H → δ.length = σ.length → is.length = ss.length → (∀ i ∈ is, i < δ.length) → Sg K M0 M H0 (setS δ is ss) (setO σ is vs) H
  | [], [], vs, δ, σ, g, hl, _, _ => by
    have h := g.len
    simp only [List.length_append, List.length_nil, List.length_map, Nat.add_zero] at h
    have e : vs = [] := List.eq_nil_of_length_eq_zero (by omega)
    subst e
    rw [List.append_nil, List.map_nil, List.append_nil] at g
    exact g
  | i :: is, s :: ss, vs, δ, σ, g, hl, hn, hb => by
    cases vs with
    | nil =>
      have h := g.len
      simp only [List.length_append, List.length_cons, List.length_map, List.length_nil] at h
      omega
    | cons v vs =>
      have g2 := Sg.move (δr := ss) (σr := vs.map some) g hl i (hb i List.mem_cons_self)
      exact Sg.moves is ss vs g2 (by rw [List.length_set, List.length_set]; exact hl) (by simpa using hn) fun j hj => by
        rw [List.length_set]
        exact hb j (List.mem_cons_of_mem _ hj)
  | [], _ :: _, _, _, _, _, _, h, _ => by simp at h
  | _ :: _, [], _, _, _, _, _, h, _ => by simp at h
theorem Sg.pushes (g : Sg K M0 M H0 δ σ H) : ∀ {ds : List Dt} {vs : List V}, reps K ds vs (hid M H) → ∀ {δ : List Sl} {σ : L2.St}, Sg K M0 M H0 δ σ H → Sg K M0 M H0 (δ ++ ds.map .im) (σ ++ vs.map some) H
  | [], vs, r, δ, σ, g => by
    rw [reps_nil.mp r, List.map_nil, List.map_nil, List.append_nil, List.append_nil]
    exact g
  | d :: ds, vs, r, δ, σ, g0 => by
    obtain ⟨x, ys, rfl, r1, r2⟩ := reps_cons.mp r
    have g2 := Sg.pushes g r2 (g0.push_im r1)
    rw [List.append_assoc, List.append_assoc] at g2
    exact g2
/-- another base: the own changing things are new to it -/
theorem Sg.rebase (g : Sg K M0 M H0 δ σ H) : ∃ H0', Ex H0 H0' ∧ Ex (hid M H) H0' ∧ Sg K M0 M H0' δ σ H := by
  classical
  let H0' : Hp := fun a => if a ∈ M ∧ H0 a = none then none else H a
  have e0 : ∀ {a : Addr} {o : HO}, H0' a = some o → H a = some o := fun {a o} h => by
    show H a = _
    have h' : (if a ∈ M ∧ H0 a = none then none else H a) = some o := h
    split at h'
    · cases h'
    · exact h'
  have n0 : ∀ {a : Addr}, a ∈ M → H0 a = none → H0' a = none := fun {a} h1 h2 => by
    show (if a ∈ M ∧ H0 a = none then none else H a) = none
    rw [if_pos ⟨h1, h2⟩]
  refine ⟨H0', fun a o h => ?_, fun a o h => ?_, ⟨fun a o h => e0 h, g.sub, fun l hl => ?_, g.dom, g.len, g.is_im, fun i ds h => ?_, fun i C fs h => ?_, g.apart⟩⟩
  · show (if a ∈ M ∧ H0 a = none then none else H a) = some o
    rw [if_neg (fun z => by rw [h] at z; cases z.2)]
    exact g.ext a o h
  · obtain ⟨h1, h2⟩ := hid_out h
    show (if a ∈ M ∧ H0 a = none then none else H a) = some o
    rw [if_neg (fun z => h1 z.1)]
    exact h2
  · rcases g.own l hl with h | h
    · exact .inl h
    · exact .inr (n0 hl h)
  · obtain ⟨l, xs, h1, h0, h2, h3, h4, h5⟩ := g.is_mu i ds h
    exact ⟨l, xs, h1, h0, n0 h1 h2, h3, h4, h5⟩
  · obtain ⟨a, dx, vals, h1, h2, k1, k2, h3, h4, h5, h6, h7, h8, h9⟩ := g.is_ob i C fs h
    exact ⟨a, dx, vals, h1, h2, k1, k2, n0 h1 h3, n0 h2 h4, h5, h6, h7, h8, h9⟩
theorem Sg.unbase {H0' : Hp} (g : Sg K M0 M H0' δ σ H) (e : Ex H0 H0') : Sg K M0 M H0 δ σ H := by
  refine ⟨e.trans g.ext, g.sub, fun l hl => ?_, g.dom, g.len, g.is_im, fun i ds h => ?_, fun i C fs h => ?_, g.apart⟩
  · rcases g.own l hl with h | h
    · exact .inl h
    · exact .inr (e.back h)
  · obtain ⟨l, xs, h1, h0, h2, h3, h4, h5⟩ := g.is_mu i ds h
    exact ⟨l, xs, h1, h0, e.back h2, h3, h4, h5⟩
  · obtain ⟨a, dx, vals, h1, h2, k1, k2, h3, h4, h5, h6, h7, h8, h9⟩ := g.is_ob i C fs h
    exact ⟨a, dx, vals, h1, h2, k1, k2, e.back h3, e.back h4, h5, h6, h7, h8, h9⟩
/-- what the new base shows stays to be seen -/
theorem Sg.seen {H1 H0' : Hp} {M1 : List Addr} (g : Sg K M0 M H0' δ σ H) (e : Ex (hid M1 H1) H0') (hs : ∀ l ∈ M0, l ∈ M1) : Ex (hid M1 H1) (hid M H) := fun a o h => by
  have h2 := e a o h
  obtain ⟨h3, _⟩ := hid_out h
  rw [hid_at fun z => ?_]
  · exact g.ext a o h2
  · rcases g.own a z with q | q
    · exact h3 (hs a q)
    · rw [q] at h2
      cases h2
end

/-! ### a datum stored to a target -/
def TgD (X : Cx) (tg : Expr) (is : List Nat) (δ : List Sl) (d : Dt) (δ' : List Sl) : Prop := ∀ M0 M H0 σ H v, Sg X.K M0 M H0 δ σ H → rep X.K d v (hid M H) → tpg X tg v σ H fun σ' H' => ∃ vs, σ' = setO σ is vs ∧ H' = H ∧ Sg X.K M0 M H0 δ' σ' H'
def gNames : List Nat → TGs
  | [] => gNil
  | i :: is => gCons (gName i) (gNames is)
theorem gNames_run {Q : L2.St → Hp → Prop} {H : Hp} : ∀ {is : List Nat} {vs : List V} {σ : L2.St}, is.length = vs.length → Q (setO σ is vs) H → gNames is vs σ H Q
  | [], [], σ, _, h => ⟨rfl, h⟩
  | i :: is, v :: vs, σ, hl, h => ⟨v, vs, rfl, gNames_run (by simpa using hl) h⟩
  | [], _ :: _, _, h, _ => by simp at h
  | _ :: _, [], _, h, _ => by simp at h
def TgP (X : Cx) (es : List Expr) (is : List Nat) : Prop := PGs X es (gNames is)
section
variable {X : Cx} {δ δ' : List Sl} {a b c e iter : Expr} {es : List Expr} {pos : Pos} {Ra Rb Rc R R' : Dt → Prop} {Rs : List Dt → Prop} {i j : Int} {x y z fl : Str} {p : Pos} {ds : List Dt} {d da db : Dt} {D : DEnds} {rest body : List Stmt} {ss : List Sl} {is : List Nat}
variable {P : Program} {w : World} {K : PySem.W.Frag} {mg : Str → Option Value} {base : Heap} {k m q : Nat} {N : List Str} {sc : Scope}
theorem tg_name (n : Nat) (cg : Cg P w K mg base k N sc X) (hx : Nm X n x := by first | exact Cg.nmL (by assumption) rfl rfl | exact Cg.nmC (by assumption) (by assumption) rfl rfl) : TgD X (.Name x p) [n] δ d (δ.set n (.im d)) := fun M0 M H0 σ H v g r =>
  tpg_of (pg_name (cg.nm ▸ cg.nd) hx.at_ hx.loc hx.fn) (show gName n v σ H _ from ⟨[v], rfl, rfl, g.set_im n r⟩)
theorem tp_nil : TgP X [] [] := pgs_nil
theorem tp_cons (n : Nat) (cg : Cg P w K mg base k N sc X) (h : TgP X es is) (hx : Nm X n x := by first | exact Cg.nmL (by assumption) rfl rfl | exact Cg.nmC (by assumption) (by assumption) rfl rfl)
    (hs : (assignEach ((.Name x p) :: es) X.env).map (·.2) = assign (.Name x p) X.env :: (assignEach es X.env).map (·.2) := by rfl) : TgP X ((.Name x p) :: es) (n :: is) :=
  pgs_cons (pg_name (cg.nm ▸ cg.nd) hx.at_ hx.loc hx.fn) h hs
theorem tg_tup {kt : Nat} (cg : Cg P w K mg base k N sc X) (h : TgP X es is) (hl : is.length = ds.length := by rfl) (hbb : (is.all fun i => decide (i < δ.length)) = true := by rfl) (hn : (assignEach es X.env).length = is.length := by rfl) (hst : (assignEach es X.env).findIdx? (·.1) = none := by rfl) :
    TgD X (.Tuple es kt p) is δ (.tup ds) (setS δ is (ds.map .im)) := fun M0 M H0 σ H v g r => by
  obtain ⟨a, xs, rfl, h1, h2⟩ := rep_tup.mp r
  have hlx : is.length = xs.length := by rw [← reps_len h2]; exact hl
  refine tpg_of (pg_tup cg.calm h hn hst) ⟨a, xs, rfl, hid_ex.t h1, hlx.symm, gNames_run hlx ⟨xs, rfl, rfl, ?_⟩⟩
  exact Sg.moves is (ds.map .im) xs (Sg.pushes g h2 g) g.len (by rw [List.length_map]; exact hl) fun i hi => of_decide_eq_true (List.all_eq_true.mp hbb i hi)

/-! ### statements that change a list -/
theorem rep_k (cg : Cg P w K mg base k N sc X) : X.K = K := cg.fr
/-- x[i] = e -/
theorem r_put (n : Nat) {i : Int} {jn : Nat} (he : EvE X δ e R) (hi : EvD X δ b (.int i)) (hd : δ[n]? = some (Sl.mu ds)) (hj : ixN ds.length i = some jn) (kk : ∀ d, R d → RunS X (δ.set n (.mu (ds.set jn d))) rest D)
    (hN : X.N[n]? = some x := by first | rfl | exact Cg.na (by assumption) rfl) (hv : Vis X.env.scope x := by first | exact Or.inl rfl | exact Or.inr (Or.inl rfl) | exact Or.inr (Or.inr rfl) | exact Cg.vis (by assumption) (by first | exact Or.inl rfl | exact Or.inr (Or.inl rfl) | exact Or.inr (Or.inr rfl)))
    (h1 : (x == ("__debug__" : Str)) = false := by decide) (h2 : (x == ("__classdict__" : Str)) = false := by decide) {px : Pos}
    (ha : ∀ v, assign (.Subscript (.Name x px) b p) X.env v = (do
      let ov ← holding [v] (eval (.Name x px) X.env)
      let iv ← holding [v, ov] (eval b X.env)
      standAt p
      holding [v, ov, iv] (setItem ov iv v)
      release [v, ov, iv] []) := by intro _; rfl)
    (hs : swapsWithSole [.Subscript (.Name x px) b p] e pos.line X.env = pure false := by rfl) (hw : swappedStores [.Subscript (.Name x px) b p] e X.env = pure none := by rfl)
    (hm : (assignEach [.Subscript (.Name x px) b p] X.env).map (·.2) = [assign (.Subscript (.Name x px) b p) X.env] := by rfl) : RunS X δ (.Assign [.Subscript (.Name x px) b p] e pos :: rest) D :=
  r_of (ps_asg pe_tev (pg_sub (pe_var hN hv h1 h2) pe_tev set_list ha) hs hw hm) fun M0 M H0 σ H g => tev_mono (he M0 M H0 σ H g) fun v H1 ⟨e1, d, rd, q⟩ => by
    obtain ⟨l, xs, k1, k2, k3, k4, k5, k6⟩ := (g.grow e1).is_mu n ds hd
    refine ⟨.ref l, k4, tev_mono (hi M0 M H0 σ H1 (g.grow e1)) fun y H2 ⟨e2, d', ed, q2⟩ => ?_⟩
    cases ed
    have g2 := (g.grow e1).grow e2
    refine ⟨l, xs, i, jn, rfl, rep_int.mp q2, e2 _ _ k5, by rw [← reps_len k6]; exact hj, kk d rd M0 M H0 σ _ ?_⟩
    exact g2.put hd k4 (e2 _ _ k5) (reps_set (rep_mono (hid_mono e2) q) jn (reps_mono (hid_mono e2) k6))
/-- x.append(e) -/
theorem r_append (n : Nat) {px apos cpos : Pos} (he : EvE X δ e R) (hd : δ[n]? = some (Sl.mu ds)) (hl : ds.length ≤ 100000) (kk : ∀ d, R d → RunS X (δ.set n (.mu (ds ++ [d]))) rest D)
    (hN : X.N[n]? = some x := by first | rfl | exact Cg.na (by assumption) rfl) (hv : Vis X.env.scope x := by first | exact Or.inl rfl | exact Or.inr (Or.inl rfl) | exact Or.inr (Or.inr rfl) | exact Cg.vis (by assumption) (by first | exact Or.inl rfl | exact Or.inr (Or.inl rfl) | exact Or.inr (Or.inr rfl)))
    (h1 : (x == ("__debug__" : Str)) = false := by decide) (h2 : (x == ("__classdict__" : Str)) = false := by decide)
    (hbase : attributeBase (.Name x px) "append" X.env (eval (.Name x px) X.env) = eval (.Name x px) X.env := by rfl)
    (hfew : ((backTo cpos (starEach [e] X.env)).all (fun x => !x.1) && (backToKw cpos (keywordEach [] X.env)).all (fun x => x.1.isSome)
      && decide ([e].length + ([] : List Keyword).length + (if ([] : List Keyword).isEmpty then 0 else 1) < 30)) = true := by rfl)
    (hline : (apos.endLine == cpos.line) = true := by rfl) (hst : starEach [e] X.env = (false, eval e X.env) :: starEach [] X.env := by rfl) (hpl : (backTo cpos (starEach [] X.env)).any (·.1) = false := by rfl)
    (hs : swapsWith (.Call (.Attribute (.Name x px) "append" apos) [e] [] cpos) none pos.line X.env = pure false := by rfl) : RunS X δ (.Expr (.Call (.Attribute (.Name x px) "append" apos) [e] [] cpos) pos :: rest) D :=
  r_of (ps_expr (pe_bm PySem.F.plainAttrs_list PySem.F.slot_list_append PySem.F.type_list_append mt_append (pe_var hN hv h1 h2) (pa_cons pe_tev pa_nil hst) hbase hfew hline hst hpl) hs) fun M0 M H0 σ H g => by
    obtain ⟨l, xs, k1, k2, k3, k4, k5, k6⟩ := g.is_mu n ds hd
    refine ⟨.ref l, k4, .inl ⟨rfl, xs, .inl (.inl k5)⟩, tev_mono (he M0 M H0 σ H g) fun v H1 ⟨e1, d, rd, q⟩ => ?_⟩
    refine ⟨l, xs, v, rfl, rfl, e1 _ _ k5, ?_, kk d rd M0 M H0 σ _ ?_⟩
    · rw [← reps_len k6]
      exact Nat.lt_of_le_of_lt hl (by decide)
    · exact (g.grow e1).put hd k4 (e1 _ _ k5) (reps_app (reps_mono (hid_mono e1) k6) (reps_mk q (reps_nil.mpr rfl)))
/-- x op= e, integers -/
theorem r_augA (n : Nat) {px : Pos} (cg : Cg P w K mg base k N sc X) (hd : δ[n]? = some (Sl.im (.int i))) (he : EvD X δ e (.int j)) (kk : RunS X (δ.set n (.im (.int (i + j)))) rest D)
    (hx : Nm X n x := by first | exact Cg.nmL (by assumption) rfl rfl | exact Cg.nmC (by assumption) (by assumption) rfl rfl) : RunS X δ (.AugAssign (.Name x px) .Add e pos :: rest) D :=
  r_of (ps_aug (cg.nm ▸ cg.nd) hx.at_ hx.loc pe_tev ip_add hx.fn) fun M0 M H0 σ H g => by
    obtain ⟨v, k1, k2⟩ := g.is_im n _ hd
    refine ⟨v, k1, tev_mono (he M0 M H0 σ H g) fun u H1 ⟨e1, d, ed, q⟩ => ?_⟩
    cases ed
    exact ⟨i, j, rep_int.mp k2, rep_int.mp q, kk M0 M H0 _ _ ((g.grow e1).set_im n (rep_int.mpr rfl))⟩
theorem r_augS (n : Nat) {px : Pos} (cg : Cg P w K mg base k N sc X) (hd : δ[n]? = some (Sl.im (.int i))) (he : EvD X δ e (.int j)) (kk : RunS X (δ.set n (.im (.int (i - j)))) rest D)
    (hx : Nm X n x := by first | exact Cg.nmL (by assumption) rfl rfl | exact Cg.nmC (by assumption) (by assumption) rfl rfl) : RunS X δ (.AugAssign (.Name x px) .Sub e pos :: rest) D :=
  r_of (ps_aug (cg.nm ▸ cg.nd) hx.at_ hx.loc pe_tev ip_sub hx.fn) fun M0 M H0 σ H g => by
    obtain ⟨v, k1, k2⟩ := g.is_im n _ hd
    refine ⟨v, k1, tev_mono (he M0 M H0 σ H g) fun u H1 ⟨e1, d, ed, q⟩ => ?_⟩
    cases ed
    exact ⟨i, j, rep_int.mp k2, rep_int.mp q, kk M0 M H0 _ _ ((g.grow e1).set_im n (rep_int.mpr rfl))⟩
theorem r_augF (n : Nat) {px : Pos} (cg : Cg P w K mg base k N sc X) (hd : δ[n]? = some (Sl.im (.int i))) (he : EvD X δ e (.int j)) (hc : 0 < j ∧ j < 1073741824) (kk : RunS X (δ.set n (.im (.int (i / j)))) rest D)
    (hx : Nm X n x := by first | exact Cg.nmL (by assumption) rfl rfl | exact Cg.nmC (by assumption) (by assumption) rfl rfl) : RunS X δ (.AugAssign (.Name x px) .FloorDiv e pos :: rest) D :=
  r_of (ps_aug (ti := rI CDiv fun i j => .int (i / j)) (cg.nm ▸ cg.nd) hx.at_ hx.loc pe_tev iop_fdiv hx.fn) fun M0 M H0 σ H g => by
    obtain ⟨v, k1, k2⟩ := g.is_im n _ hd
    refine ⟨v, k1, tev_mono (he M0 M H0 σ H g) fun u H1 ⟨e1, d, ed, q⟩ => ?_⟩
    cases ed
    exact ⟨i, j, rep_int.mp k2, rep_int.mp q, hc, kk M0 M H0 _ _ ((g.grow e1).set_im n (rep_int.mpr rfl))⟩

/-! ### while -/
theorem never (cg : Cg P w K mg base k N sc X) : PassesOwn (model X.prog X.w) X.A X.env X.xe := by
  rw [cg.nox]
  exact .never
/-- Iv: the invariant with its measure -/
theorem r_while (cg : Cg P w K mg base k N sc X) (Iv : Nat → List Sl → Prop) (m0 : Nat) (h0 : Iv m0 δ)
    (hs : ∀ m δ', Iv m δ' → ∃ q, EvT X δ' c q ∧ (q = true → RunS X δ' body { D with nx := fun δ2 => ∃ m', m' < m ∧ Iv m' δ2, ct := fun δ2 => ∃ m', m' < m ∧ Iv m' δ2, bk := fun δ2 => RunS X δ2 rest D }) ∧ (q = false → RunS X δ' rest D)) : RunS X δ (.While c body [] pos :: rest) D :=
  r_of (ps_while (never cg) pt_tet pss_tes) fun M0 M H0 σ H g => by
    refine ⟨fun m σ' H' => ∃ M' δ', Iv m δ' ∧ Sg X.K M0 M' H0 δ' σ' H', ⟨m0, M, δ, h0, g⟩, ?_⟩
    rintro m σ' H' ⟨M', δ', iv, g'⟩
    obtain ⟨q, hc, h1, h2⟩ := hs m δ' iv
    refine tet_mono (hc M0 M' H0 σ' H' g') fun b H1 ⟨e1, eb⟩ => ?_
    subst eb
    cases b with
    | true =>
      rw [if_pos rfl]
      refine ⟨fun σ2 H2 => ∃ M2 δ2, (∃ m', m' < m ∧ Iv m' δ2) ∧ Sg X.K M0 M2 H0 δ2 σ2 H2, fun σ2 H2 ⟨M2, δ2, ⟨m', hm, iv'⟩, g2⟩ => ⟨m', hm, M2, δ2, iv', g2⟩, ?_⟩
      exact tes_mono (h1 rfl M0 M' H0 σ' H1 (g'.grow e1)) (fun _ _ ⟨M2, δ2, q, g2⟩ => ⟨M2, δ2, q, g2⟩) (fun _ _ q => q) (fun σ2 H2 ⟨M2, δ2, q, g2⟩ => q M0 M2 H0 σ2 H2 g2) fun _ _ ⟨M2, δ2, q, g2⟩ => ⟨M2, δ2, q, g2⟩
    | false =>
      rw [if_neg Bool.false_ne_true]
      exact h2 rfl M0 M' H0 σ' H1 (g'.grow e1)

/-! ### for -/
/-- what a walk gives, seen from the heap Hb -/
def YD (K : PySem.W.Frag) (Hb : Hp) (ds : List Dt) : Nat → Hp → V → Hp → Prop := fun i H x H' => Ex H H' ∧ ∃ d, ds[i]? = some d ∧ ∀ M, (∀ l ∈ M, H l ≠ none) → Ex Hb (hid M H) → rep K d x (hid M H')
def IterD (X : Cx) (δ : List Sl) (tg e : Expr) (ds : List Dt) : Prop := ∀ M0 M H0 σ H, Sg X.K M0 M H0 δ σ H → tpi X tg e σ H fun J H1 => Ex H H1 ∧ Walk J ds.length (fun H' => Ex (hid M H1) H') (YD X.K (hid M H1) ds)
/-- Iv: the invariant by the number of turns -/
theorem r_for (cg : Cg P w K mg base k N sc X) {tg : Expr} (hi : IterD X δ tg e ds) (Iv : Nat → List Sl → Prop) (h0 : Iv 0 δ)
    (hs : ∀ n d δ', ds[n]? = some d → Iv n δ' → ∃ is δ2, TgD X tg is δ' d δ2 ∧ RunS X δ2 body { D with nx := Iv (n + 1), ct := Iv (n + 1), bk := fun δ3 => RunS X δ3 rest D }) (hd : ∀ δ', Iv ds.length δ' → RunS X δ' rest D)
    (hf : ∀ x, foldedSetIterable e X.env x = pure x := by intro _; rfl) : RunS X δ (.For tg e body [] pos :: rest) D :=
  r_of (ps_for (never cg) cg.calm pi_tpi pg_tpg pss_tes hf) fun M0 M H0 σ H g => tpi_mono (hi M0 M H0 σ H g) fun J H1 ⟨e1, wk⟩ => by
    obtain ⟨H0', b1, b2, g'⟩ := (g.grow e1).rebase
    refine for_it wk (fun i σ' H' => ∃ M' δ', Iv i δ' ∧ Sg X.K M0 M' H0' δ' σ' H') ⟨M, δ, h0, g'⟩ (fun i σ' H' _ ⟨M', δ', _, g2⟩ => b2.trans g2.ext) ?_ fun σ' H' ⟨M', δ', iv, g2⟩ => hd δ' iv M0 M' H0 σ' H' (g2.unbase b1)
    rintro i x σ' H' H2 hi' ⟨M', δ', iv, g2⟩ ⟨e2, d, hd', y⟩
    obtain ⟨is, δ2, ht, hb⟩ := hs i d δ' hd' iv
    have g3 := g2.grow e2
    refine tpg_mono (ht M0 M' H0' σ' H2 x g3 (y M' g2.dom (g2.seen b2 g.sub))) fun σ3 H3 ⟨vs, es, eh, g4⟩ => ?_
    exact tes_mono (hb M0 M' H0' σ3 H3 g4) (fun _ _ ⟨M2, δ3, q, g5⟩ => ⟨M2, δ3, q, g5⟩) (fun _ _ ⟨d, q, e, r⟩ => ⟨d, q, b1.trans e, r⟩) (fun σ2 H2 ⟨M2, δ2, q, g2⟩ => q M0 M2 H0 σ2 H2 (g2.unbase b1)) fun _ _ ⟨M2, δ3, q, g5⟩ => ⟨M2, δ3, q, g5⟩
end
end DL

namespace DL
open PySem PySem.Spec PyProof.Rows L2

/-! ### sequences of either kind: k = true a list, k = false a tuple -/
def SqK (K : PySem.W.Frag) (k : Bool) (H : Hp) (a : Addr) (xs : List V) : Prop := if k = true then SqL K H a xs else SqT K H a xs
def IsSq (k : Bool) (h : Heap) (a : Addr) (its : Array Value) : Prop := if k = true then h.IsList a its else h.IsTuple a its
def IsIt (k : Bool) (h : Heap) (it a : Addr) (i : Nat) : Prop := if k = true then h.IsListIter it a i else h.IsTupleIter it a i
theorem IsIt.obj {k : Bool} {h : Heap} {it a : Addr} {i : Nat} (s : IsIt k h it a i) : ∃ o, h.get? it = some o ∧ ∀ v, o.data ≠ .cell v := by
  cases k with
  | true =>
    obtain ⟨o, e, c, d⟩ := (show h.IsListIter it a i from s)
    exact ⟨o, e, fun v z => by rw [d] at z; cases z⟩
  | false =>
    obtain ⟨o, e, c, d⟩ := (show h.IsTupleIter it a i from s)
    exact ⟨o, e, fun v z => by rw [d] at z; cases z⟩
theorem IsIt.keep {k : Bool} {h h' : Heap} {it a : Addr} {i : Nat} (s : IsIt k h it a i) (e : ∀ o, h.get? it = some o → h'.get? it = some o) : IsIt k h' it a i := by
  cases k with
  | true => exact (show h.IsListIter it a i from s).at e
  | false => exact (show h.IsTupleIter it a i from s).at e
theorem SqK.of_inv {X : Cx} {pins : List (Addr × Obj)} {σ : L2.St} {H : Hp} {s : Shared} {k : Bool} {a : Addr} {xs : List V} (I : Inv X pins σ H s) (h : SqK X.K k H a xs) : ∃ its : List Value, Vals xs its ∧ IsSq k s.heap a its.toArray := by
  cases k with
  | true =>
    obtain ⟨its, r, p, _⟩ := I.list (show SqL X.K H a xs from h)
    exact ⟨its, r, p.isList⟩
  | false =>
    obtain ⟨its, r, p, _⟩ := I.tuple (show SqT X.K H a xs from h)
    exact ⟨its, r, p⟩
theorem SqK.inj {X : Cx} {pins : List (Addr × Obj)} {σ : L2.St} {H : Hp} {s : Shared} {k : Bool} {a : Addr} {xs ys : List V} (I : Inv X pins σ H s) (h : SqK X.K k H a xs) (h2 : SqK X.K k H a ys) : xs = ys := by
  cases k with
  | true => exact I.list_inj (show SqL X.K H a xs from h) h2
  | false => exact I.tuple_inj (show SqT X.K H a xs from h) h2
theorem IsSq.lt {k : Bool} {h : Heap} {a : Addr} {its : Array Value} (s : IsSq k h a its) : a < h.objs.size := by
  cases k with
  | true =>
    obtain ⟨o, e, _⟩ := (show h.IsList a its from s)
    exact Heap.lt_size e
  | false =>
    obtain ⟨o, e, _⟩ := (show h.IsTuple a its from s)
    exact Heap.lt_size e
theorem IsIt.lt {k : Bool} {h : Heap} {it a : Addr} {i : Nat} (s : IsIt k h it a i) : it < h.objs.size := by
  obtain ⟨o, e, _⟩ := s.obj
  exact Heap.lt_size e
theorem draws_sq {prog : Program} {w : World} {A : Around} (hh : A.handled = none) (k : Bool) (it a : Addr) (ne : a ≠ it) (its : Array Value) : Draws prog w A it [it, a] its.size (fun i v => its[i]? = some v) fun i h => IsIt k h it a i ∧ IsSq k h a its := by
  cases k with
  | true => exact Draws.list hh it a ne its
  | false => exact Draws.tuple hh it a ne its
def itOb (k : Bool) (a : Addr) : Obj := if k = true then { cls := .type "list_iterator", data := .fields #[.ref a, .int 0 0] } else { cls := .type "tuple_iterator", data := .fields #[.ref a, .int 0 0] }
theorem begins_sq (k : Bool) (a : Addr) (its : Array Value) : Begins (.ref a) (itOb k a) fun h => IsSq k h a its := by
  cases k with
  | true => exact begins_list a its
  | false => exact begins_tuple a its
theorem itOb_is {k : Bool} {h : Heap} {it a : Addr} (e : h.get? it = some (itOb k a)) : IsIt k h it a 0 := by
  cases k with
  | true => exact ⟨_, e, rfl, rfl⟩
  | false => exact ⟨_, e, rfl, rfl⟩

/-! ### enumerate(list or tuple) -/
theorem enum_lays {v : Value} {o : Obj} {G : Heap → Prop} (B : Begins v o G) : Meets (Builtin.«enumerate.__new__» ⟨[.type "enumerate", v], []⟩) fun _ R s => G s.heap ∧
    R (.ok (.ret (.ref (s.heap.push o).objs.size))) { s with heap := (s.heap.push o).push { cls := .type "enumerate", data := .fields #[.none, .bool false, .ref s.heap.objs.size, rawInt 0, .none, .none] } } :=
  .of_wp fun prog w A R s hyp => by
    rcases s with ⟨hp, gn, dd, tk, os⟩
    rcases hyp with ⟨hg, fin⟩
    have es := sub_enumerate
    have go : ∀ {A1 : Around} {E1 : Value → Shared → Prop} {Q1 : Value → Shared → Prop}, Q1 (.ref hp.objs.size) ⟨hp.push o, gn, dd, tk, os⟩ → wpAny (model prog w) A1 (pyIter v) Q1 E1 ⟨hp, gn, dd, tk, os⟩ := fun q =>
      B.iter prog w _ _ ⟨hp, gn, dd, tk, os⟩ _ hg q
    wp_walk using go
    apply wpAny_stack_any
    intro st
    apply wpAny_pure
    split
    · rename_i c _ _ _ _ _
      by_cases hc : (c == Value.type "enumerate") = true
      · rw [hc]
        wp_walk using go
        exact ⟨_, rfl, fin⟩
      · rw [Bool.not_eq_true] at hc
        rw [hc]
        wp_walk using go
        exact ⟨_, rfl, fin⟩
    · wp_walk using go
      exact ⟨_, rfl, fin⟩
theorem enum_made {prog : Program} {w : World} {A : Around} {E : Value → Shared → Prop} {s : Shared} {v : Value} {o : Obj} {G : Heap → Prop} {Q : Value → Shared → Prop} (B : Begins v o G) (hg : G s.heap)
    (fin : ∀ h', IsEnum h' (s.heap.objs.size + 1) s.heap.objs.size 0 .none → h'.get? s.heap.objs.size = some o → (∀ b u, s.heap.get? b = some u → h'.get? b = some u) → Q (.ref (s.heap.objs.size + 1)) { s with heap := h' }) :
    wpAny (model prog w) A (call (.type "enumerate") [v]) Q E s := by
  refine callType_new F.called_enumerate (by decide) (F.typeCall_enumerate_1 _) (F.newCall_enumerate_1 _) (fun q => F.args_object_init_2 q _) F.entry_enumerate_new (enum_lays B) ⟨hg, ?_⟩
  have z1 : (s.heap.push o).objs.size = s.heap.objs.size + 1 := Heap.size_push ..
  have en : IsEnum ((s.heap.push o).push { cls := .type "enumerate", data := .fields #[.none, .bool false, .ref s.heap.objs.size, rawInt 0, .none, .none] }) (s.heap.objs.size + 1) s.heap.objs.size 0 .none := by
    rw [← z1]
    exact Heap.get?_push_size _ rfl
  show _ ∧ _
  rw [z1]
  exact ⟨⟨_, en, rfl⟩, fin _ en (Heap.get?_push_of_some _ (Heap.get?_push_size _ B.free)) fun b u q => Heap.get?_push_of_some _ (Heap.get?_push_of_some _ q)⟩
/-- the sequence at a as it stands at each turn, each item in a new pair -/
def Iek (K : PySem.W.Frag) (k : Bool) (a : Addr) : It :=
  ⟨fun i H => ∃ (xs : List V) (x : V), SqK K k H a xs ∧ xs[i]? = some x, fun i H v H' => ∃ T x, v = .ref T ∧ H T = none ∧ H' = upd H T (.tup [.int (i : Nat), x]) ∧ ∀ xs, SqK K k H a xs → xs[i]? = some x, fun i H => ∃ xs : List V, SqK K k H a xs ∧ xs.length = i⟩
theorem turn_ek {P : Program} {w : World} {K : PySem.W.Frag} {elts : List Expr} {kk : Nat} {tpos : Pos} (k : Bool) (a e it : Addr) (hae : a ≠ e) (hai : a ≠ it) (hei : e ≠ it) :
    Turn P w K (.Tuple elts kk tpos) (Iek K k a) [e, it] e fun i h => (∃ old, IsEnum h e it ((i : Nat) : Int) old) ∧ IsIt k h it a i where
  mem := List.mem_cons_self
  obj := fun i h ⟨⟨old, he⟩, hi⟩ b hb => by
    rcases List.mem_cons.mp hb with rfl | hb
    · exact ⟨_, he, fun v q => nomatch q⟩
    · rw [List.mem_singleton.mp hb]
      exact hi.obj
  keep := fun i h h' ⟨⟨old, he⟩, hi⟩ kp => ⟨⟨old, kp e List.mem_cons_self _ he⟩, hi.keep fun o q => kp it (List.mem_cons_of_mem _ List.mem_cons_self) o q⟩
  item := by
    intro X hP hw hK hc i pins s σ H E I hf st hg
    subst hP hw hK
    rcases st with ⟨⟨old, he⟩, hit⟩
    rcases hg with ⟨xs, x, hq, hx⟩
    obtain ⟨its, rv, sq⟩ := hq.of_inv I
    have hl := rv.length
    have hlt : i < its.toArray.size := by
      have := (List.getElem?_eq_some_iff.mp hx).1
      rw [List.size_toArray, ← hl]
      exact this
    have el : e < s.heap.objs.size := Heap.lt_size he
    refine wpAny_pyNext_enum_itemD (draws_sq (prog := X.prog) (w := X.w) (A := X.A.in1) (show X.A.in1.handled = none from I.ok.hd hc) k it a hai its.toArray) he ⟨hit, sq⟩ hlt hei (fun z => ?_) fun u h' tk hu ho st2 hT hsz hk => ?_
    · rcases List.mem_cons.mp z with z | z
      · exact hei z
      · exact hae (List.mem_singleton.mp z).symm
    obtain ⟨u2, hu2, ru⟩ := rv.get hx
    have eu : u = u2 := by
      rw [List.getElem?_toArray, hu2] at hu
      exact (Option.some.inj hu).symm
    subst eu
    refine ⟨_, rfl, wpAny_letOwnedTupleGo_enum (s := { s with heap := h', toks := tk + 1 }) ho fun h'' he' sb => ?_⟩
    have hT2 : h''.get? s.heap.objs.size = some { cls := .type "tuple", data := .seq #[.int i tk, u] } := (sb.2 _ (Nat.ne_of_gt el)).trans hT
    have new : ObjOk X.prog X.w (upd H s.heap.objs.size (.tup [.int (i : Nat), x])) h'' s.heap.objs.size (.tup [.int (i : Nat), x]) :=
      ⟨by show 2 ≤ sizeLine; decide, [.int i tk, u], .cons ⟨_, rfl⟩ (.cons ru .nil), ⟨_, hT2, rfl, _, rfl⟩⟩
    have I1 : Inv X pins σ (upd H s.heap.objs.size (.tup [.int (i : Nat), x])) { s with heap := h'', toks := tk + 1 } :=
      I.turnedNew (ch := [e, it]) (fun b ob hb q => (sb.2 b fun z => hb (by simp [z])).trans (hk b ob (fun z => hb (by simp [z])) (fun z => hb (by simp [z])) q)) hf (Nat.le_refl _) new
    refine ⟨.ref s.heap.objs.size, _, I1, rfl, ⟨_, x, rfl, I.hok.fresh (Nat.le_refl _), rfl, fun ys hy => by rw [hy.inj I hq]; exact hx⟩, ⟨⟨u, ?_⟩, st2.1.keep fun o q => (sb.2 it (Ne.symm hei)).trans q⟩, fun b hb => ?_⟩
    · rw [show ((i + 1 : Nat) : Int) = (i : Int) + 1 by omega]
      exact he'
    · have hb' : b < s.heap.objs.size := by
        rcases List.mem_cons.mp hb with z | z
        · rw [z]
          exact el
        · rw [List.mem_singleton.mp z]
          exact hit.lt
      rw [upd_ne (Nat.ne_of_lt hb')]
      exact (hf b hb).1
  done := by
    intro X hP hw hK hc i pins s σ H E I hf st hg
    subst hP hw hK
    rcases st with ⟨⟨old, he⟩, hit⟩
    rcases hg with ⟨xs, hq, rfl⟩
    obtain ⟨its, rv, sq⟩ := hq.of_inv I
    have hl := rv.length
    obtain ⟨f0, f1, f2, f3, f4, f5⟩ := hf it (List.mem_cons_of_mem _ List.mem_cons_self)
    have st2 : IsIt k s.heap it a its.toArray.size ∧ IsSq k s.heap a its.toArray := by
      rw [List.size_toArray, ← hl]
      exact ⟨hit, sq⟩
    exact wpAny_pyNext_enum_endD (draws_sq (prog := X.prog) (w := X.w) (A := X.A.in1) (show X.A.in1.handled = none from I.ok.hd hc) k it a hai its.toArray) he st2 fun h' eb => ⟨rfl, I.turned (t' := s.toks) (fun b o hb q => eb b o hb q) f0 f1 f3 f4 f5⟩
  self := fun A i s Q E ⟨⟨_, he⟩, _⟩ h => wpAny_pyIter_enum he h
def iEk (K : PySem.W.Frag) (k : Bool) (ta : TA) : TI := fun σ H R => ta σ H fun vs H1 => ∃ a xs, vs = [.ref a] ∧ SqK K k H1 a xs ∧ R (Iek K k a) H1
theorem pi_ek (k : Bool) {X : Cx} {e : Expr} {ta : TA} {p pos tpos : Pos} {elts : List Expr} {kk : Nat} (hg : Gl X "enumerate") (hm : X.mg "enumerate" = none) (ha : PA X [e] ta) (hs : starEach [e] X.env = [(false, eval e X.env)] := by rfl) :
    PI X (.Tuple elts kk tpos) (.Call (.Name "enumerate" p) [e] [] pos) (iEk X.K k ta) := ⟨fun pins s σ H R I h => by
  refine Call_ (ld_blt I hg hm boot_enumerate (PyProof.Rows.callWith_type1 (thn (ha.run pos pins s σ H _ I h) fun us s1 ⟨vs, H1, I1, r1, a, xs, ex, hq, q⟩ => ?_) hs rfl))
  subst ex
  obtain ⟨u, rfl, ru⟩ := r1.one
  cases ru
  obtain ⟨its, rv, sq⟩ := hq.of_inv I1
  have al := sq.lt
  refine enum_made (begins_sq k a its.toArray) sq fun h' he hit hk => wpAny_pyIter_enum he ?_
  have I2 : Inv X pins σ H1 { s1 with heap := h' } := I1.kept (t' := s1.toks) hk
  refine ⟨s1.heap.objs.size + 1, [s1.heap.objs.size + 1, s1.heap.objs.size], _, _, H1, rfl, I2, turn_ek k a (s1.heap.objs.size + 1) s1.heap.objs.size (Nat.ne_of_lt (Nat.lt_succ_of_lt al)) (Nat.ne_of_lt al) (Nat.succ_ne_self _), ⟨⟨.none, he⟩, itOb_is hit⟩, fun b hb => ?_, q⟩
  have hle : s1.heap.objs.size ≤ b := by
    rcases List.mem_cons.mp hb with z | z
    · rw [z]
      exact Nat.le_succ _
    · rw [List.mem_singleton.mp z]
      exact Nat.le_refl _
  exact I1.fpOk hle (I1.hok.fresh hle)⟩
theorem walk_ek {K : PySem.W.Frag} {k : Bool} {a : Addr} {xs : List V} : Walk (Iek K k a) xs.length (fun H => SqK K k H a xs) (YPair (fun i => some (.int (i : Nat))) fun i => xs[i]?) :=
  ⟨fun i _ hi q => ⟨xs, xs[i], q, List.getElem?_eq_getElem hi⟩, fun _ q => ⟨xs, q, rfl⟩, fun i H v H' _ q ⟨T, x, h1, h2, h3, h4⟩ => ⟨T, _, x, h1, h2, h3, rfl, h4 xs q⟩⟩
end DL

namespace DL
open PySem PySem.Spec PyProof.Rows L2

/-! ### zip of two sequences, of either kind each -/
def Izk (K : PySem.W.Frag) (k1 k2 : Bool) (a b : Addr) : It :=
  ⟨fun i H => ∃ (xs ys : List V) (x y : V), SqK K k1 H a xs ∧ SqK K k2 H b ys ∧ xs[i]? = some x ∧ ys[i]? = some y,
    fun i H v H' => ∃ T x y, v = .ref T ∧ H T = none ∧ H' = upd H T (.tup [x, y]) ∧ (∀ xs, SqK K k1 H a xs → xs[i]? = some x) ∧ ∀ ys, SqK K k2 H b ys → ys[i]? = some y,
    fun i H => ∃ xs ys : List V, SqK K k1 H a xs ∧ SqK K k2 H b ys ∧ i ≤ xs.length ∧ i ≤ ys.length ∧ (i = xs.length ∨ i = ys.length)⟩
theorem five {α : Type} {p : α → Prop} {z a b c d x : α} (h : x ∈ [z, a, b, c, d]) (hz : p z) (ha : p a) (hb : p b) (hc : p c) (hd : p d) : p x := by
  simp only [List.mem_cons, List.not_mem_nil, or_false] at h
  rcases h with rfl | rfl | rfl | rfl | rfl
  · exact hz
  · exact ha
  · exact hb
  · exact hc
  · exact hd
theorem turn_zk {P : Program} {w : World} {K : PySem.W.Frag} {elts : List Expr} {kk : Nat} {tpos : Pos} (k1 k2 : Bool) {a b z TI TO i1 i2 : Addr} (S : ZipSep2 z TI TO i1 i2 [i1, a] [i2, b]) (ha : a ≠ i1) (hb : b ≠ i2) :
    Turn P w K (.Tuple elts kk tpos) (Izk K k1 k2 a b) [z, TI, TO, i1, i2] z fun i h => IsZip h z TI TO .none ∧ IsTupOf2 h TI (.ref i1) (.ref i2) ∧ (∃ x y, IsTupOf2 h TO x y) ∧ IsIt k1 h i1 a i ∧ IsIt k2 h i2 b i where
  mem := List.mem_cons_self
  obj := fun i h ⟨hz, hTI, ⟨x, y, hTO⟩, h1, h2⟩ c hcm => five (p := fun c => ∃ o, h.get? c = some o ∧ ∀ v, o.data ≠ .cell v) hcm ⟨_, hz, fun v q => nomatch q⟩ ⟨_, hTI, fun v q => nomatch q⟩ ⟨_, hTO, fun v q => nomatch q⟩ h1.obj h2.obj
  keep := fun i h h' ⟨hz, hTI, ⟨x, y, hTO⟩, h1, h2⟩ kp => ⟨kp z (by simp) _ hz, kp TI (by simp) _ hTI, ⟨x, y, kp TO (by simp) _ hTO⟩, h1.keep fun o q => kp i1 (by simp) o q, h2.keep fun o q => kp i2 (by simp) o q⟩
  item := by
    intro X hP hw hK hc i pins s σ H E I hf st hg
    subst hP hw hK
    rcases st with ⟨hz, hTI, ⟨x0, y0, hTO⟩, h1, h2⟩
    rcases hg with ⟨xs, ys, x, y, hqx, hqy, hx, hy⟩
    obtain ⟨its, rv, sq⟩ := hqx.of_inv I
    obtain ⟨its2, rv2, sq2⟩ := hqy.of_inv I
    have l1 := rv.length
    have l2 := rv2.length
    have b1 : i < its.toArray.size := by
      have := (List.getElem?_eq_some_iff.mp hx).1
      rw [List.size_toArray, ← l1]
      exact this
    have b2 : i < its2.toArray.size := by
      have := (List.getElem?_eq_some_iff.mp hy).1
      rw [List.size_toArray, ← l2]
      exact this
    have D1 := draws_sq (prog := X.prog) (w := X.w) (A := X.A.in1) (show X.A.in1.handled = none from I.ok.hd hc) k1 i1 a ha its.toArray
    have D2 := draws_sq (prog := X.prog) (w := X.w) (A := X.A.in1) (show X.A.in1.handled = none from I.ok.hd hc) k2 i2 b hb its2.toArray
    have zl : z < s.heap.objs.size := Heap.lt_size hz
    refine wpAny_pyNext_zipD2_item S D1 D2 hz hTI hTO ⟨h1, sq⟩ ⟨h2, sq2⟩ b1 b2 fun u u2 h' tk hu hu2 z' TO' st1 st2 hT hsz hk => ?_
    obtain ⟨v1, hv1, ru⟩ := rv.get hx
    obtain ⟨v2, hv2, ru2⟩ := rv2.get hy
    have e1 : u = v1 := by
      rw [List.getElem?_toArray, hv1] at hu
      exact (Option.some.inj hu).symm
    have e2 : u2 = v2 := by
      rw [List.getElem?_toArray, hv2] at hu2
      exact (Option.some.inj hu2).symm
    subst e1 e2
    refine ⟨_, rfl, wpAny_letOwnedTupleGo_zip (s := { s with heap := h', toks := tk }) z' fun h'' z'' sb => ?_⟩
    have hT2 : h''.get? s.heap.objs.size = some { cls := .type "tuple", data := .seq #[u, u2] } := (sb.2 _ (Nat.ne_of_gt zl)).trans hT
    have new : ObjOk X.prog X.w (upd H s.heap.objs.size (.tup [x, y])) h'' s.heap.objs.size (.tup [x, y]) :=
      ⟨by show 2 ≤ sizeLine; decide, [u, u2], .cons ru (.cons ru2 .nil), ⟨_, hT2, rfl, _, rfl⟩⟩
    have I1 : Inv X pins σ (upd H s.heap.objs.size (.tup [x, y])) { s with heap := h'', toks := tk } :=
      I.turnedNew (t' := tk) (ch := [z, TI, TO, i1, i2]) (fun c o hb q => (sb.2 c fun q' => hb (by simp [q'])).trans (hk c o (fun q' => hb (by simp [q'])) (fun q' => hb (by simp [q'])) (fun q' => hb (by simp [q'])) (fun q' => hb (by simp [q'])) q)) hf (Nat.le_refl _) new
    refine ⟨.ref s.heap.objs.size, _, I1, rfl, ⟨_, x, y, rfl, I.hok.fresh (Nat.le_refl _), rfl, fun l hl => by rw [hl.inj I hqx]; exact hx, fun l hl => by rw [hl.inj I hqy]; exact hy⟩, ⟨z'', ?_, ⟨u, u2, ?_⟩, ?_, ?_⟩, fun c hcm => ?_⟩
    · exact (sb.2 _ S.TIz).trans (hk _ _ S.TIz S.TITO S.TIi1 S.TIi2 hTI)
    · exact (sb.2 _ S.TOz).trans TO'
    · exact st1.1.keep fun o q => (sb.2 _ (Ne.symm S.zi1)).trans q
    · exact st2.1.keep fun o q => (sb.2 _ (Ne.symm S.zi2)).trans q
    · have hlt : c < s.heap.objs.size := five (p := fun c => c < s.heap.objs.size) hcm zl (Heap.lt_size hTI) (Heap.lt_size hTO) h1.lt h2.lt
      rw [upd_ne (Nat.ne_of_lt hlt)]
      exact (hf c hcm).1
  done := by
    intro X hP hw hK hc i pins s σ H E I hf st hg
    subst hP hw hK
    rcases st with ⟨hz, hTI, ⟨x0, y0, hTO⟩, h1, h2⟩
    rcases hg with ⟨xs, ys, hqx, hqy, c1, c2, hend⟩
    obtain ⟨its, rv, sq⟩ := hqx.of_inv I
    obtain ⟨its2, rv2, sq2⟩ := hqy.of_inv I
    have l1 := rv.length
    have l2 := rv2.length
    have D1 := draws_sq (prog := X.prog) (w := X.w) (A := X.A.in1) (show X.A.in1.handled = none from I.ok.hd hc) k1 i1 a ha its.toArray
    have D2 := draws_sq (prog := X.prog) (w := X.w) (A := X.A.in1) (show X.A.in1.handled = none from I.ok.hd hc) k2 i2 b hb its2.toArray
    refine wpAny_pyNext_zipD2_end S D1 D2 hz hTI hTO ⟨h1, sq⟩ ⟨h2, sq2⟩ (by rw [List.size_toArray]; omega) (by rw [List.size_toArray]; omega) (by rw [List.size_toArray, List.size_toArray]; omega) fun h' tk hk => ⟨rfl, I.turnedL (t' := tk) (ch := [z, TI, TO, i1, i2]) (fun c o hb q => ?_) hf⟩
    exact hk c o (fun q' => hb (by simp [q'])) (fun q' => hb (by simp [q'])) (fun q' => hb (by simp [q'])) (fun q' => hb (by simp [q'])) q
  self := fun A i s Q E st h => wpAny_pyIter_zip st.1 h
def iZk (K : PySem.W.Frag) (k1 k2 : Bool) (ta : TA) : TI := fun σ H R => ta σ H fun vs H1 => ∃ a b xs ys, vs = [.ref a, .ref b] ∧ SqK K k1 H1 a xs ∧ SqK K k2 H1 b ys ∧ R (Izk K k1 k2 a b) H1
theorem pi_zk (k1 k2 : Bool) {X : Cx} {e e2 : Expr} {ta : TA} {p pos tpos : Pos} {elts : List Expr} {kk : Nat} (hg : Gl X "zip") (hm : X.mg "zip" = none) (ha : PA X [e, e2] ta)
    (hs : starEach [e, e2] X.env = (false, eval e X.env) :: starEach [e2] X.env := by rfl) (hpl : (backTo pos (starEach [e2] X.env)).any (·.1) = false := by rfl) : PI X (.Tuple elts kk tpos) (.Call (.Name "zip" p) [e, e2] [] pos) (iZk X.K k1 k2 ta) := ⟨fun pins s σ H R I h => by
  refine Call_ (ld_blt I hg hm PyProof.Rows.boot_zip (PyProof.Rows.callWith_type1 (thn (ha.run pos pins s σ H _ I h) fun us s1 ⟨vs, H1, I1, r1, a, b, xs, ys, ex, hqx, hqy, q⟩ => ?_) hs hpl))
  subst ex
  obtain ⟨its, rv, sq⟩ := hqx.of_inv I1
  obtain ⟨its2, rv2, sq2⟩ := hqy.of_inv I1
  cases r1 with
  | cons ru rr =>
    obtain ⟨u2, rfl, ru2⟩ := Vals.one rr
    cases ru
    cases ru2
    have al := sq.lt
    have bl := sq2.lt
    refine zip_begins2 (begins_sq k1 a its.toArray) (begins_sq k2 b its2.toArray) sq sq2 fun h' hz hTI hTO h1 h2 hsz hk => wpAny_pyIter_zip hz ?_
    have I2 : Inv X pins σ H1 { s1 with heap := h' } := I1.kept (t' := s1.toks) hk
    have S := zip_sep2 (N := s1.heap.objs.size) (fp1 := [a]) (fp2 := [b]) (fun c hc => by rw [List.mem_singleton.mp hc]; exact al) fun c hc => by rw [List.mem_singleton.mp hc]; exact bl
    refine ⟨s1.heap.objs.size + 4, [s1.heap.objs.size + 4, s1.heap.objs.size + 2, s1.heap.objs.size + 3, s1.heap.objs.size, s1.heap.objs.size + 1], _, _, H1, rfl, I2, turn_zk k1 k2 S (Nat.ne_of_lt al) (Nat.ne_of_lt (Nat.lt_succ_of_lt bl)), ⟨hz, hTI, ⟨_, _, hTO⟩, itOb_is h1, itOb_is h2⟩, fun c hcm => ?_, q⟩
    have hle : s1.heap.objs.size ≤ c := five (p := fun c => s1.heap.objs.size ≤ c) hcm (Nat.le_add_right _ _) (Nat.le_add_right _ _) (Nat.le_add_right _ _) (Nat.le_refl _) (Nat.le_add_right _ _)
    exact I1.fpOk hle (I1.hok.fresh hle)⟩
theorem walk_zk {K : PySem.W.Frag} {k1 k2 : Bool} {a b : Addr} {xs ys : List V} {n : Nat} (hn : n = min xs.length ys.length) : Walk (Izk K k1 k2 a b) n (fun H => SqK K k1 H a xs ∧ SqK K k2 H b ys) (YPair (fun i => xs[i]?) fun i => ys[i]?) := by
  subst hn
  refine ⟨fun i _ hi q => ?_, fun _ q => ⟨xs, ys, q.1, q.2, Nat.min_le_left _ _, Nat.min_le_right _ _, by omega⟩, fun i H v H' _ q ⟨T, x, z, h1, h2, h3, h4, h5⟩ => ⟨T, x, z, h1, h2, h3, h4 xs q.1, h5 ys q.2⟩⟩
  have h1 : i < xs.length := by omega
  have h2 : i < ys.length := by omega
  exact ⟨xs, ys, xs[i], ys[i], q.1, q.2, List.getElem?_eq_getElem h1, List.getElem?_eq_getElem h2⟩

/-! ### what a for walks, by data -/
section
variable {X : Cx} {δ : List Sl} {a b c e tg : Expr} {es : List Expr} {pos : Pos} {i j : Int} {p : Pos} {ds ds2 : List Dt} {d d2 : Dt}
variable {P : Program} {w : World} {K : PySem.W.Frag} {mg : Str → Option Value} {base : Heap} {k : Nat} {N : List Str} {sc : Scope}
theorem Sq.ofK (q : Sq d ds) {K : PySem.W.Frag} {H : Hp} {v : V} (h : rep K d v H) : ∃ k a xs, v = .ref a ∧ (∀ H', Ex H H' → SqK K k H' a xs) ∧ reps K ds xs H := by
  cases q with
  | l =>
    obtain ⟨a, xs, h1, h2, h3⟩ := rep_lst.mp h
    exact ⟨true, a, xs, h1, fun H' e => SqL.of (e _ _ h2), h3⟩
  | t =>
    obtain ⟨a, xs, h1, h2, h3⟩ := rep_tup.mp h
    exact ⟨false, a, xs, h1, fun H' e => e.t h2, h3⟩
  | s =>
    obtain ⟨a, h1, h2⟩ := rep_scr.mp h
    exact ⟨true, a, _, h1, fun H' e => e.l h2, reps_int.mpr rfl⟩
theorem it_list (ha : EvD X δ e (.lst ds)) : IterD X δ tg e ds := fun M0 M H0 σ H g =>
  tpi_of (pi_list pe_tev) (tev_mono (ha M0 M H0 σ H g) fun v H1 ⟨e1, d, ed, q⟩ => by
    cases ed
    obtain ⟨a, xs, rfl, h2, h3⟩ := rep_lst.mp q
    refine ⟨a, rfl, ⟨xs, SqL.of (hid_ex _ _ h2)⟩, e1, ?_⟩
    rw [reps_len h3]
    refine walk_list.mono (fun H' e => SqL.of (e _ _ h2)) fun i H2 x H3 hi eg ⟨eh, hx⟩ => ?_
    subst eh
    obtain ⟨d, hd, r⟩ := reps_got h3 hx
    exact ⟨Ex.rfl, d, hd, fun M' _ e2 => rep_mono e2 r⟩)
theorem it_tup (ha : EvD X δ e (.tup ds)) : IterD X δ tg e ds := fun M0 M H0 σ H g =>
  tpi_of (pi_tup pe_tev) (tev_mono (ha M0 M H0 σ H g) fun v H1 ⟨e1, d, ed, q⟩ => by
    cases ed
    obtain ⟨a, xs, rfl, h2, h3⟩ := rep_tup.mp q
    refine ⟨a, rfl, ⟨xs, hid_ex.t h2⟩, e1, ?_⟩
    rw [reps_len h3]
    refine walk_tup.mono (fun H' e => e.t h2) fun i H2 x H3 hi eg ⟨eh, hx⟩ => ?_
    subst eh
    obtain ⟨d, hd, r⟩ := reps_got h3 hx
    exact ⟨Ex.rfl, d, hd, fun M' _ e2 => rep_mono e2 r⟩)
theorem rangeD_len {lo c : Int} {n : Nat} : (rangeD lo c n).length = n := by unfold rangeD; rw [List.length_map, List.length_range]
theorem rangeD_get {lo c : Int} {n i : Nat} (h : i < n) : (rangeD lo c n)[i]? = some (lo + (i : Int) * c) := by
  unfold rangeD
  rw [List.getElem?_map, List.getElem?_range h]
  rfl
theorem walk_rng {K : PySem.W.Frag} {Hb : Hp} {J : It} {lo c : Int} {n : Nat} {f : Nat → V} (hf : ∀ i, f i = .int (lo + (i : Nat) * c)) (w : Walk J n (fun _ => True) (YFn f)) : Walk J (rowD (rangeD lo c n)).length (fun H' => Ex Hb H') (YD K Hb (rowD (rangeD lo c n))) := by
  rw [List.length_map, rangeD_len]
  refine w.mono (fun _ _ => trivial) fun i H2 x H3 hi _ ⟨eh, hx⟩ => ?_
  subst eh hx
  exact ⟨Ex.rfl, .int (lo + (i : Nat) * c), by rw [List.getElem?_map, rangeD_get hi]; rfl, fun M _ _ => rep_int.mpr (hf i)⟩
theorem it_range1 (ha : EvD X δ a (.int j)) (hb : -(2 ^ 62) ≤ j ∧ j < 2 ^ 62) (hm : X.mg "range" = none := by first | assumption | exact Cg.bf (by assumption) (by assumption) rfl) (hg : Gl X "range" := by first | rfl | exact Cg.gl (by assumption) rfl)
    (hs : starEach [a] X.env = [(false, eval a X.env)] := by rfl) : IterD X δ tg (.Call (.Name "range" p) [a] [] pos) (rowD (rangeD 0 1 j.toNat)) := fun M0 M H0 σ H g =>
  tpi_of (pi_range1 hg hm pa_tea hs) (tea_mono (a_d ha a_nil hs M0 M H0 σ H g) fun vs H1 ⟨e1, ds, ed, q⟩ => by
    cases ed
    obtain ⟨v, rfl, r⟩ := one_of q
    exact ⟨j, by rw [rep_int.mp r], hb.1, hb.2, e1, walk_rng (fun i => by rw [Int.mul_one]) walk_range⟩)
theorem it_range2 (ha : EvD X δ a (.int i)) (hb : EvD X δ b (.int j)) (hc : -(2 ^ 62) ≤ i ∧ i < 2 ^ 62 ∧ -(2 ^ 62) ≤ j ∧ j < 2 ^ 62) (hm : X.mg "range" = none := by first | assumption | exact Cg.bf (by assumption) (by assumption) rfl) (hg : Gl X "range" := by first | rfl | exact Cg.gl (by assumption) rfl)
    (hs : starEach [a, b] X.env = [(false, eval a X.env), (false, eval b X.env)] := by rfl) (hs2 : starEach [b] X.env = [(false, eval b X.env)] := by rfl) : IterD X δ tg (.Call (.Name "range" p) [a, b] [] pos) (rowD (rangeD i 1 (j - i).toNat)) := fun M0 M H0 σ H g =>
  tpi_of (pi_range2 hg hm pa_tea hs hs2) (tea_mono (a_d ha (a_d hb a_nil hs2) (by rw [hs, hs2]) M0 M H0 σ H g) fun vs H1 ⟨e1, ds, ed, q⟩ => by
    cases ed
    obtain ⟨v, u, rfl, r, r2⟩ := two_of q
    exact ⟨i, j, by rw [rep_int.mp r, rep_int.mp r2], hc, e1, walk_rng (fun i => by rw [Int.mul_one]) walk_range⟩)
/-- range(i, j, -1) -/
theorem it_range3 (ha : EvD X δ a (.int i)) (hb : EvD X δ b (.int j)) (hcc : EvD X δ c (.int (-1))) (hc : -(2 ^ 62) ≤ i ∧ i < 2 ^ 62 ∧ -(2 ^ 62) ≤ j ∧ j < 2 ^ 62) (hm : X.mg "range" = none := by first | assumption | exact Cg.bf (by assumption) (by assumption) rfl) (hg : Gl X "range" := by first | rfl | exact Cg.gl (by assumption) rfl)
    (hs : starEach [a, b, c] X.env = (false, eval a X.env) :: starEach [b, c] X.env := by rfl) (hs2 : starEach [b, c] X.env = (false, eval b X.env) :: starEach [c] X.env := by rfl) (hs3 : starEach [c] X.env = (false, eval c X.env) :: starEach [] X.env := by rfl)
    (hpl : (backTo pos (starEach [b, c] X.env)).any (·.1) = false := by rfl) : IterD X δ tg (.Call (.Name "range" p) [a, b, c] [] pos) (rowD (rangeD i (-1) (i - j).toNat)) := fun M0 M H0 σ H g =>
  tpi_of (pi_range3 hg hm pa_tea hs hpl) (tea_mono (a_d ha (a_d hb (a_d hcc a_nil hs3) hs2) hs M0 M H0 σ H g) fun vs H1 ⟨e1, ds, ed, q⟩ => by
    cases ed
    obtain ⟨v, vr, rfl, r, q⟩ := reps_cons.mp q
    obtain ⟨u, u2, rfl, r2, r3⟩ := two_of q
    exact ⟨i, j, -1, _, by rw [rep_int.mp r, rep_int.mp r2, rep_int.mp r3], .neg hc.1 hc.2.1 hc.2.2.1 hc.2.2.2, e1, walk_rng (fun i => rfl) walk_rangeC⟩)
/-- pairs -/
def enumD (ds : List Dt) : List Dt := ds.zipIdx.map fun q => .tup [.int (q.2 : Nat), q.1]
theorem enumD_len : (enumD ds).length = ds.length := by unfold enumD; rw [List.length_map, List.length_zipIdx]
theorem enumD_get {i : Nat} {d : Dt} (h : ds[i]? = some d) : (enumD ds)[i]? = some (.tup [.int (i : Nat), d]) := by
  unfold enumD
  rw [List.getElem?_map, List.getElem?_zipIdx, h]
  simp
def zipD (ds ds2 : List Dt) : List Dt := (ds.zip ds2).map fun q => .tup [q.1, q.2]
theorem zipD_len : (zipD ds ds2).length = min ds.length ds2.length := by unfold zipD; rw [List.length_map, List.length_zip]
theorem zipD_get {i : Nat} {d d' : Dt} (h : ds[i]? = some d) (h2 : ds2[i]? = some d') : (zipD ds ds2)[i]? = some (.tup [d, d']) := by
  unfold zipD
  rw [List.getElem?_map, List.getElem?_zip_eq_some (z := (d, d')).mpr ⟨h, h2⟩]
  rfl
theorem pair_rep {K : PySem.W.Frag} {Hb H2 : Hp} {T : Addr} {x y : V} {d d' : Dt} (hn : H2 T = none) (r : rep K d x Hb) (r2 : rep K d' y Hb) (M : List Addr) (hM : ∀ l ∈ M, H2 l ≠ none) (e : Ex Hb (hid M H2)) : rep K (.tup [d, d']) (.ref T) (hid M (upd H2 T (.tup [x, y]))) := by
  refine rep_tup.mpr ⟨T, [x, y], rfl, .inl (.inl ?_), ?_⟩
  · rw [hid_at fun z => hM T z hn, upd_same]
  · exact reps_mono (hid_mono (Ex.new hn)) (reps_mk (rep_mono e r) (reps_mk (rep_mono e r2) (reps_nil.mpr rfl)))
theorem it_enum {elts : List Expr} {kk : Nat} {tpos : Pos} (q : Sq d ds) (ha : EvD X δ e d) (hm : X.mg "enumerate" = none := by first | assumption | exact Cg.bf (by assumption) (by assumption) rfl) (hg : Gl X "enumerate" := by first | rfl | exact Cg.gl (by assumption) rfl)
    (hs : starEach [e] X.env = [(false, eval e X.env)] := by rfl) : IterD X δ (.Tuple elts kk tpos) (.Call (.Name "enumerate" p) [e] [] pos) (enumD ds) := fun M0 M H0 σ H g => by
  -- the kind is known by the datum alone
  have kd : ∃ k : Bool, ∀ (v : V) (H1 : Hp), rep X.K d v H1 → ∃ a xs, v = .ref a ∧ (∀ H', Ex H1 H' → SqK X.K k H' a xs) ∧ reps X.K ds xs H1 := by
    cases q with
    | l => exact ⟨true, fun v H1 h => let ⟨a, xs, h1, h2, h3⟩ := rep_lst.mp h; ⟨a, xs, h1, fun H' e => SqL.of (e _ _ h2), h3⟩⟩
    | t => exact ⟨false, fun v H1 h => let ⟨a, xs, h1, h2, h3⟩ := rep_tup.mp h; ⟨a, xs, h1, fun H' e => e.t h2, h3⟩⟩
    | s => exact ⟨true, fun v H1 h => let ⟨a, h1, h2⟩ := rep_scr.mp h; ⟨a, _, h1, fun H' e => e.l h2, reps_int.mpr rfl⟩⟩
  obtain ⟨k, kd⟩ := kd
  refine tpi_of (pi_ek k hg hm pa_tea hs) (tea_mono (a_d ha a_nil hs M0 M H0 σ H g) fun vs H1 ⟨e1, ds', ed, q2⟩ => ?_)
  cases ed
  obtain ⟨v, rfl, r⟩ := one_of q2
  obtain ⟨a, xs, rfl, h2, h3⟩ := kd _ _ r
  refine ⟨a, xs, rfl, h2 _ hid_ex, e1, ?_⟩
  rw [enumD_len, reps_len h3]
  refine walk_ek.mono (fun H' e => h2 _ e) fun i H2 x H3 hi eg ⟨T, x1, y1, ev, hn, eh, ex, ey⟩ => ?_
  subst ev eh
  obtain ⟨dd, hd, r⟩ := reps_got h3 ey
  exact ⟨Ex.new hn, _, enumD_get hd, fun M' hM e2 => pair_rep hn (by rw [← Option.some.inj ex]; exact rep_int.mpr rfl) r M' hM e2⟩
theorem it_zip {elts : List Expr} {kk : Nat} {tpos : Pos} (q : Sq d ds) (q2 : Sq d2 ds2) (ha : EvD X δ a d) (hb : EvD X δ b d2) (hm : X.mg "zip" = none := by first | assumption | exact Cg.bf (by assumption) (by assumption) rfl) (hg : Gl X "zip" := by first | rfl | exact Cg.gl (by assumption) rfl)
    (hs : starEach [a, b] X.env = (false, eval a X.env) :: starEach [b] X.env := by rfl) (hs2 : starEach [b] X.env = (false, eval b X.env) :: starEach [] X.env := by rfl) (hpl : (backTo pos (starEach [b] X.env)).any (·.1) = false := by rfl) :
    IterD X δ (.Tuple elts kk tpos) (.Call (.Name "zip" p) [a, b] [] pos) (zipD ds ds2) := fun M0 M H0 σ H g => by
  have kd : ∀ {d : Dt} {ds : List Dt}, Sq d ds → ∃ k : Bool, ∀ (v : V) (H1 : Hp), rep X.K d v H1 → ∃ a xs, v = .ref a ∧ (∀ H', Ex H1 H' → SqK X.K k H' a xs) ∧ reps X.K ds xs H1 := fun {d ds} q => by
    cases q with
    | l => exact ⟨true, fun v H1 h => let ⟨a, xs, h1, h2, h3⟩ := rep_lst.mp h; ⟨a, xs, h1, fun H' e => SqL.of (e _ _ h2), h3⟩⟩
    | t => exact ⟨false, fun v H1 h => let ⟨a, xs, h1, h2, h3⟩ := rep_tup.mp h; ⟨a, xs, h1, fun H' e => e.t h2, h3⟩⟩
    | s => exact ⟨true, fun v H1 h => let ⟨a, h1, h2⟩ := rep_scr.mp h; ⟨a, _, h1, fun H' e => e.l h2, reps_int.mpr rfl⟩⟩
  obtain ⟨k, k1⟩ := kd q
  obtain ⟨k', k2⟩ := kd q2
  refine tpi_of (pi_zk k k' hg hm pa_tea hs hpl) (tea_mono (a_d ha (a_d hb a_nil hs2) hs M0 M H0 σ H g) fun vs H1 ⟨e1, ds', ed, q2⟩ => ?_)
  cases ed
  obtain ⟨v, u, rfl, r, r2⟩ := two_of q2
  obtain ⟨a, xs, rfl, h2, h3⟩ := k1 _ _ r
  obtain ⟨b, ys, rfl, h4, h5⟩ := k2 _ _ r2
  refine ⟨a, b, xs, ys, rfl, h2 _ hid_ex, h4 _ hid_ex, e1, ?_⟩
  refine (walk_zk (by rw [zipD_len, reps_len h3, reps_len h5])).mono (fun H' e => ⟨h2 _ e, h4 _ e⟩) fun i H2 x H3 hi eg ⟨T, x1, y1, ev, hn, eh, ex, ey⟩ => ?_
  subst ev eh
  obtain ⟨dd, hd, r⟩ := reps_got h3 ex
  obtain ⟨de, he, r2⟩ := reps_got h5 ey
  exact ⟨Ex.new hn, _, zipD_get hd he, fun M' hM e2 => pair_rep hn r r2 M' hM e2⟩
end
end DL

namespace DL
open PySem PySem.Spec PyProof.Rows L2

/-! ### list comprehensions -/
def wipeS (δ : List Sl) : List Nat → List Sl
  | [] => δ
  | v :: vs => (wipeS δ vs).set v .no
theorem Sg.wiped {K : PySem.W.Frag} {M0 M : List Addr} {H0 H : Hp} {δ : List Sl} {σ : L2.St} (g : Sg K M0 M H0 δ σ H) : ∀ vs : List Nat, Sg K M0 M H0 (wipeS δ vs) (wipe σ vs) H
  | [] => g
  | v :: vs => (g.wiped vs).set_no v none
theorem wipe_get {σ : L2.St} {j : Nat} : ∀ {vs : List Nat}, j ∈ vs → j < σ.length → (wipe σ vs)[j]? = some none
  | v :: vs, h, hl => by
    unfold wipe
    by_cases e : v = j
    · subst e
      rw [List.getElem?_set_self (by rw [wipe_length]; exact hl)]
    · rw [List.getElem?_set_ne e]
      exact wipe_get (by rcases List.mem_cons.mp h with q | q; exact absurd q.symm e; exact q) hl
theorem wipe_out {σ : L2.St} {j : Nat} : ∀ {vs : List Nat}, j ∉ vs → (wipe σ vs)[j]? = σ[j]?
  | [], _ => rfl
  | v :: vs, h => by
    unfold wipe
    rw [List.getElem?_set_ne fun e => h (by rw [e]; exact List.mem_cons_self)]
    exact wipe_out fun z => h (List.mem_cons_of_mem _ z)
theorem setO_out {j : Nat} : ∀ {is : List Nat} {xs : List V} {σ : L2.St}, j ∉ is → (setO σ is xs)[j]? = σ[j]?
  | [], xs, σ, _ => by cases xs <;> rfl
  | i :: is, [], σ, _ => rfl
  | i :: is, x :: xs, σ, h => by
    show (setO (σ.set i (some x)) is xs)[j]? = _
    rw [setO_out fun z => h (List.mem_cons_of_mem _ z), List.getElem?_set_ne fun e => h (by rw [e]; exact List.mem_cons_self)]
/-- what is stored to the block's own names is forgotten again -/
theorem wipe_setO {σ : L2.St} {vs is : List Nat} {xs : List V} (h : ∀ i ∈ is, i ∈ vs) : wipe (setO (wipe σ vs) is xs) vs = wipe σ vs := by
  apply List.ext_getElem?
  intro j
  by_cases hj : j ∈ vs
  · by_cases hl : j < σ.length
    · rw [wipe_get hj (by rw [setO_len, wipe_length]; exact hl), wipe_get hj hl]
    · rw [List.getElem?_eq_none (by rw [wipe_length, setO_len, wipe_length]; omega), List.getElem?_eq_none (by rw [wipe_length]; omega)]
  · rw [wipe_out hj, setO_out fun z => hj (h j z)]
theorem Ex.trans' {H H' : Hp} {A : Addr} {o : HO} (e : Ex H H') (h : H A = none) : Ex H (upd H' A o) := fun a u q => by
  rw [upd_ne fun z => by rw [z, h] at q; cases q]
  exact e a u q
section
variable {X : Cx} {δ : List Sl} {a b c e elt tg iter : Expr} {ifs : List Expr} {scope : Scope} {own : List (Str × Nat)} {pos : Pos} {ds : List Dt} {d : Dt}
variable {P : Program} {w : World} {K : PySem.W.Frag} {mg : Str → Option Value} {base : Heap} {k : Nat} {N : List Str} {sc : Scope} {D : DEnds} {rest : List Stmt} {x y : Str}
def tevB (X : Cx) (scope : Scope) (e : Expr) : TE := fun σ H Q => ∀ (s0 : Shared) (H0 : Hp) (C : Addr) (cl : List (Str × Addr)) (fp : List Addr), tev (X.blk s0 H0 scope (compEnvC scope cl C X.env) fp) e σ H Q
def tetB (X : Cx) (scope : Scope) (e : Expr) : TT := fun σ H Q => ∀ (s0 : Shared) (H0 : Hp) (C : Addr) (cl : List (Str × Addr)) (fp : List Addr), tet (X.blk s0 H0 scope (compEnvC scope cl C X.env) fp) e σ H Q
def tpgB (X : Cx) (scope : Scope) (e : Expr) : TG := fun v σ H Q => ∀ (s0 : Shared) (H0 : Hp) (C : Addr) (cl : List (Str × Addr)) (fp : List Addr), tpg (X.blk s0 H0 scope (compEnvC scope cl C X.env) fp) e v σ H Q
theorem Cg.blk (cg : Cg P w K mg base k N sc X) (s0 : Shared) (H0 : Hp) (C : Addr) (cl : List (Str × Addr)) (fp : List Addr) : Cg P w K mg base k N (relS scope sc) (X.blk s0 H0 scope (compEnvC scope cl C X.env) fp) where
  prog := cg.prog
  wd := cg.wd
  fr := cg.fr
  glo := cg.glo
  bs := cg.bs
  nm := cg.nm
  scp := by
    show relS scope X.env.scope = _
    rw [cg.scp]
  nd := cg.nd
  room := cg.room
  calm := cg.calm
  nox := rfl
def outD {α : Type} (p : α → Bool) (f : α → Dt) (xs : List α) : List Dt := (xs.filter p).map f
theorem outD_snoc {α : Type} {p : α → Bool} {f : α → Dt} {xs : List α} {a : α} : outD p f (xs ++ [a]) = if p a = true then outD p f xs ++ [f a] else outD p f xs := by
  unfold outD
  rw [List.filter_append, List.map_append]
  by_cases h : p a = true
  · rw [if_pos h, List.filter_cons, if_pos h, List.filter_nil, List.map_cons, List.map_nil]
  · rw [if_neg h, List.filter_cons, if_neg h, List.filter_nil, List.map_nil, List.append_nil]
theorem outD_len {α : Type} {p : α → Bool} {f : α → Dt} {xs : List α} : (outD p f xs).length ≤ xs.length := by
  unfold outD
  rw [List.length_map]
  exact List.length_filter_le _ _
/-- a comprehension's reading: a new list of the data -/
theorem lc_run {α : Type} {xs : List α} {gd f : α → Dt} {p : α → Bool} {tt : TT} {vs : List Nat} (hl : xs.length ≤ 100000) (it : IterD X δ tg iter (xs.map gd))
    (step : ∀ a ∈ xs, ∀ M0 M H0 σ H v, Sg X.K M0 M H0 (wipeS δ vs) σ H → rep X.K (gd a) v (hid M H) → tpgB X scope tg v σ H fun σ2 H2 => (∃ is ws, (∀ i ∈ is, i ∈ vs) ∧ σ2 = setO σ is ws) ∧ H2 = H ∧ tt σ2 H2 fun b H3 => Ex H2 H3 ∧ b = p a ∧ (p a = true → tevB X scope elt σ2 H3 fun y H4 => Ex H3 H4 ∧ rep X.K (f a) y (hid M H4)))
    (tt_mono : ∀ σ H (Q Q' : Bool → Hp → Prop), (∀ b H, Q b H → Q' b H) → tt σ H Q → tt σ H Q') {M0 M : List Addr} {H0 : Hp} {σ : L2.St} {H : Hp} (g : Sg X.K M0 M H0 δ σ H) :
    tLc (tpi X tg iter) (tpgB X scope tg) tt (tevB X scope elt) vs σ H fun v H2 => ∃ l ys H1, v = .ref l ∧ Ex H H1 ∧ H1 l = none ∧ H2 = upd H1 l (.lst ys) ∧ reps X.K (outD p f xs) ys (hid M H1) := by
  refine tpi_mono (it M0 M H0 σ H g) fun J H1 ⟨e1, wk⟩ A hA => ?_
  have gw := (g.grow e1).wiped vs
  have wl := gw.len
  rw [List.length_map] at wk
  refine lc_it wk (fun n H' => Sg X.K M0 (A :: M) H0 (wipeS δ vs ++ [.mu (outD p f (xs.take n))]) (wipe σ vs ++ [some (.ref A)]) H' ∧ Ex H1 H') ⟨?_, Ex.new hA⟩ (fun n H' _ ⟨_, e⟩ => hid_ex.trans e) ?_ ?_
  · rw [List.take_zero]
    exact gw.push_mu hA (reps_nil.mpr rfl)
  · rintro n x H2 H3 hn ⟨g2, e2⟩ ⟨e3, d, hd, y⟩
    have hnx : n < xs.length := hn
    have ea : xs[n]? = some xs[n] := List.getElem?_eq_getElem hnx
    rw [List.getElem?_map, ea] at hd
    obtain rfl : gd xs[n] = d := Option.some.inj hd
    have nA : A ∉ M := fun z => (g.grow e1).dom A z hA
    have eb : Ex (hid M H1) (hid (A :: M) H2) := fun a o h => by
      obtain ⟨h1, h2⟩ := hid_out h
      rw [hid_at fun z => ?_]
      · exact e2 a o h2
      · rcases List.mem_cons.mp z with q | q
        · rw [q, hA] at h2
          cases h2
        · exact h1 q
    have g3 := g2.grow e3
    have gc := g3.cut wl
    intro s0 h0 C cl fp
    refine tpg_mono (step xs[n] (List.getElem_mem hnx) M0 (A :: M) H0 (wipe σ vs) H3 x gc (y _ g2.dom eb) s0 h0 C cl fp) fun σ2 H4 ⟨⟨is, ws, hi, es⟩, eh, ht⟩ => ?_
    subst eh es
    refine ⟨wipe_setO hi, tt_mono _ _ _ _ (fun b H5 ⟨e5, eb5, he⟩ => ?_) ht⟩
    subst eb5
    have tk : xs.take (n + 1) = xs.take n ++ [xs[n]] := by rw [List.take_add_one, ea]; rfl
    by_cases hp : p xs[n] = true
    · rw [if_pos hp]
      intro s0 h0 C cl fp
      refine tev_mono (he hp s0 h0 C cl fp) fun v H6 ⟨e6, r6⟩ => ?_
      have g6 := (g3.grow e5).grow e6
      have hs : (wipeS δ vs ++ [Sl.mu (outD p f (xs.take n))])[(wipeS δ vs).length]? = some (.mu (outD p f (xs.take n))) := by
        rw [List.getElem?_append_right (Nat.le_refl _), Nat.sub_self]
        rfl
      have ho : (wipe σ vs ++ [some (V.ref A)])[(wipeS δ vs).length]? = some (some (.ref A)) := by
        rw [wl, List.getElem?_append_right (Nat.le_refl _), Nat.sub_self]
        rfl
      obtain ⟨l, acc, k1, k2, k3, k4, k5, k6⟩ := g6.is_mu _ _ hs
      rw [ho] at k4
      obtain rfl : A = l := V.ref.inj (Option.some.inj (Option.some.inj k4))
      refine ⟨acc, k5, ?_, ?_, (((e2.trans e3).trans e5).trans e6).trans' hA⟩
      · have := outD_len (p := p) (f := f) (xs := xs.take n)
        have h2 := reps_len k6
        rw [List.length_take] at this
        exact Nat.lt_of_le_of_lt (by omega : acc.length ≤ 100000) (by decide)
      · have g7 := g6.put hs ho k5 (reps_app k6 (reps_mk r6 (reps_nil.mpr rfl)))
        rw [tk, outD_snoc, if_pos hp]
        rw [show (wipeS δ vs ++ [Sl.mu (outD p f (xs.take n))]).set (wipeS δ vs).length (.mu (outD p f (xs.take n) ++ [f xs[n]])) = wipeS δ vs ++ [.mu (outD p f (xs.take n) ++ [f xs[n]])] by simp] at g7
        exact g7
    · rw [if_neg hp]
      refine ⟨?_, (e2.trans e3).trans e5⟩
      rw [tk, outD_snoc, if_neg hp]
      exact g3.grow e5
  · rintro H2 ⟨g2, e2⟩
    rw [List.take_length] at g2
    have hs : (wipeS δ vs ++ [Sl.mu (outD p f xs)])[(wipeS δ vs).length]? = some (.mu (outD p f xs)) := by
      rw [List.getElem?_append_right (Nat.le_refl _), Nat.sub_self]
      rfl
    have ho : (wipe σ vs ++ [some (V.ref A)])[(wipeS δ vs).length]? = some (some (.ref A)) := by
      rw [wl, List.getElem?_append_right (Nat.le_refl _), Nat.sub_self]
      rfl
    obtain ⟨l, acc, k1, k2, k3, k4, k5, k6⟩ := g2.is_mu _ _ hs
    rw [ho] at k4
    obtain rfl : A = l := V.ref.inj (Option.some.inj (Option.some.inj k4))
    refine ⟨A, acc, fun a => if a = A then none else H2 a, rfl, fun a o h => ?_, if_pos rfl, ?_, reps_mono (fun a o h => ?_) k6⟩
    · have h1 := e1 a o h
      show (if a = A then none else H2 a) = _
      rw [if_neg fun z => by rw [z, hA] at h1; cases h1]
      exact e2 a o h1
    · funext a
      by_cases e : a = A
      · rw [e, upd_same, k5]
      · rw [upd_ne e]
        exact (if_neg e).symm
    · obtain ⟨h1, h2⟩ := hid_out h
      rw [hid_at fun z => h1 (List.mem_cons_of_mem _ z)]
      show (if a = A then none else H2 a) = _
      rw [if_neg fun z => h1 (by rw [z]; exact List.mem_cons_self)]
      exact h2
theorem tLc_mono {tt : TT} {vs : List Nat} {σ : L2.St} {H : Hp} {Q Q' : VK} (h : tLc (tpi X tg iter) (tpgB X scope tg) tt (tevB X scope elt) vs σ H Q) (k : ∀ v H, Q v H → Q' v H) : tLc (tpi X tg iter) (tpgB X scope tg) tt (tevB X scope elt) vs σ H Q' :=
  tpi_mono h fun J H1 q D hD => by
    obtain ⟨W, w0, turn⟩ := q D hD
    refine ⟨W, w0, fun i m H w => ?_⟩
    rcases turn i m H w with ⟨a, b⟩ | h
    · exact .inl ⟨a, k _ _ b⟩
    · exact .inr h
theorem pg_B (s : Shared) (H : Hp) (C : Addr) (cl : List (Str × Addr)) (fp : List Addr) : PG (X.blk s H scope (compEnvC scope cl C X.env) fp) tg (tpgB X scope tg) := ⟨fun pins s1 σ H1 v u Q I r q => q s H C cl fp pins s1 u I r⟩
theorem pe_B (s : Shared) (H : Hp) (C : Addr) (cl : List (Str × Addr)) (fp : List Addr) : PE (X.blk s H scope (compEnvC scope cl C X.env) fp) elt (tevB X scope elt) := ⟨fun pins s1 σ H1 Q I q => q s H C cl fp pins s1 I⟩
/-- a comprehension: what it gives -/
structure LcD (X : Cx) (δ : List Sl) (elt tg iter : Expr) (ifs : List Expr) (scope : Scope) (own : List (Str × Nat)) (ds : List Dt) : Prop where
  ok : BlkOk X.N X.env.scope scope own
  ex : ∃ tt : TT, (∀ (s : Shared) (H : Hp) (C : Addr) (cl : List (Str × Addr)) (fp : List Addr), PTs (X.blk s H scope (compEnvC scope cl C X.env) fp) ifs tt) ∧ ∀ M0 M H0 σ H, Sg X.K M0 M H0 δ σ H →
    tLc (tpi X tg iter) (tpgB X scope tg) tt (tevB X scope elt) (own.map (·.2)) σ H fun v H2 => ∃ l ys H1, v = .ref l ∧ Ex H H1 ∧ H1 l = none ∧ H2 = upd H1 l (.lst ys) ∧ reps X.K ds ys (hid M H1)
theorem lc_filter {α : Type} {xs : List α} {gd f : α → Dt} {p : α → Bool} {is : List Nat} {δF : α → List Sl} (own : List (Str × Nat)) (cg : Cg P w K mg base k N sc X) (hl : xs.length ≤ 100000) (it : IterD X δ tg iter (xs.map gd))
    (body : ∀ XB, Cg P w K mg base k N (relS scope sc) XB → ∀ a ∈ xs, TgD XB tg is (wipeS δ (own.map (·.2))) (gd a) (δF a) ∧ EvT XB (δF a) c (p a) ∧ (p a = true → EvD XB (δF a) elt (f a)))
    (hi : ∀ i ∈ is, i ∈ own.map (·.2) := by decide) (ok : BlkOk N sc scope own := by exact blkOk_by (by decide +kernel)) : LcD X δ elt tg iter [c] scope own ((xs.filter p).map f) where
  ok := by
    rw [cg.nm, cg.scp]
    exact ok
  ex := by
    refine ⟨tetB X scope c, fun s H C cl fp => pts_one ⟨fun pins s1 σ H1 Q I h => h s H C cl fp pins s1 I⟩, fun M0 M H0 σ H g => ?_⟩
    refine lc_run hl it (fun a ha M0 M H0 σ H v g r => ?_) (fun σ H Q Q' k h s0 h0 C cl fp => tet_mono (h s0 h0 C cl fp) k) g
    intro s0 h0 C cl fp
    obtain ⟨b1, _, _⟩ := body _ (cg.blk s0 h0 C cl fp) a ha
    refine tpg_mono (b1 M0 M H0 σ H v g r) fun σ2 H2 ⟨ws, es, eh, g2⟩ => ⟨⟨is, ws, hi, es⟩, eh, fun s0 h0 C cl fp => ?_⟩
    obtain ⟨_, b2, b3⟩ := body _ (cg.blk s0 h0 C cl fp) a ha
    subst eh
    refine tet_mono (b2 M0 M H0 σ2 H2 g2) fun b H3 ⟨e3, eb⟩ => ⟨e3, eb, fun hp s0 h0 C cl fp => ?_⟩
    obtain ⟨_, _, b3⟩ := body _ (cg.blk s0 h0 C cl fp) a ha
    exact tev_mono (b3 hp M0 M H0 σ2 H3 (g2.grow e3)) fun y H4 ⟨e4, d, ed, r4⟩ => ⟨e4, by rw [← (show d = f a from ed)]; exact r4⟩
theorem lc_map {α : Type} {xs : List α} {gd f : α → Dt} {is : List Nat} {δF : α → List Sl} (own : List (Str × Nat)) (cg : Cg P w K mg base k N sc X) (hl : xs.length ≤ 100000) (it : IterD X δ tg iter (xs.map gd))
    (body : ∀ XB, Cg P w K mg base k N (relS scope sc) XB → ∀ a ∈ xs, TgD XB tg is (wipeS δ (own.map (·.2))) (gd a) (δF a) ∧ EvD XB (δF a) elt (f a))
    (hi : ∀ i ∈ is, i ∈ own.map (·.2) := by decide) (ok : BlkOk N sc scope own := by exact blkOk_by (by decide +kernel)) : LcD X δ elt tg iter [] scope own (xs.map f) where
  ok := by
    rw [cg.nm, cg.scp]
    exact ok
  ex := by
    refine ⟨tYes, fun s H C cl fp => pts_nil, fun M0 M H0 σ H g => ?_⟩
    have := lc_run (scope := scope) (elt := elt) (f := f) (p := fun _ => true) (tt := tYes) (vs := own.map (·.2)) hl it (fun a ha M0 M H0 σ H v g r => ?_) (fun σ H Q Q' k h => k _ _ h) g
    · unfold outD at this
      rw [List.filter_eq_self.mpr fun _ _ => rfl] at this
      exact this
    intro s0 h0 C cl fp
    obtain ⟨b1, _⟩ := body _ (cg.blk s0 h0 C cl fp) a ha
    refine tpg_mono (b1 M0 M H0 σ H v g r) fun σ2 H2 ⟨ws, es, eh, g2⟩ => ⟨⟨is, ws, hi, es⟩, eh, ?_⟩
    subst eh
    refine ⟨Ex.rfl, rfl, fun _ s0 h0 C cl fp => ?_⟩
    obtain ⟨_, b3⟩ := body _ (cg.blk s0 h0 C cl fp) a ha
    exact tev_mono (b3 M0 M H0 σ2 H2 g2) fun y H4 ⟨e4, d, ed, r4⟩ => ⟨e4, by rw [← (show d = f a from ed)]; exact r4⟩
theorem l_lc (cg : Cg P w K mg base k N sc X) (h : LcD X δ elt tg iter ifs scope own ds) (hs : ∀ x, foldedSetIterable iter X.env x = pure x := by intro _; rfl) : EvL X δ (.ListComp elt [⟨tg, iter, ifs, 0⟩] scope pos) ds := fun M0 M H0 σ H g => by
  obtain ⟨tt, ht, hr⟩ := h.ex
  exact tev_of (pe_lc cg.calm (cg.nm ▸ cg.nd) pi_tpi h.ok pg_B ht pe_B hs) (hr M0 M H0 σ H g)
theorem v_lc (cg : Cg P w K mg base k N sc X) (h : LcD X δ elt tg iter ifs scope own ds) (hs : ∀ x, foldedSetIterable iter X.env x = pure x := by intro _; rfl) : EvD X δ (.ListComp elt [⟨tg, iter, ifs, 0⟩] scope pos) (.lst ds) := v_L (l_lc cg h hs)
/-- name = [..] on one line -/
theorem r_setLc (n : Nat) {py spos : Pos} (cg : Cg P w K mg base k N sc X) (h : LcD X δ elt tg iter ifs scope own ds) (kk : RunS X (δ.set n (.mu ds)) rest D) (hk : sc.kind = .function := by rfl) (hn : N[n]? = some y := by rfl) (hy : sc.names.lookup y = some .local := by rfl) (hline : (py.line == pos.line) = true := by rfl)
    (ho : (scope.names.any fun (n, k) => n == y && (k == .local || k == .cell)) = false := by decide +kernel) (hs : ∀ x, foldedSetIterable iter X.env x = pure x := by intro _; rfl) : RunS X δ (.Assign [.Name y py] (.ListComp elt [⟨tg, iter, ifs, 0⟩] scope pos) spos :: rest) D := by
  obtain ⟨tt, ht, hr⟩ := h.ex
  refine r_of (ps_setLc cg.calm (cg.nm ▸ cg.nd) (cg.na hn) (by rw [cg.scp]; exact hy) (sw_true (by rw [cg.scp]; exact hk) (by rw [cg.scp]; exact hy) hline ho) pi_tpi h.ok pg_B ht pe_B hs) fun M0 M H0 σ H g => ?_
  have q := hr M0 M H0 σ H g
  refine tLc_mono q fun v H2 ⟨l, xs, H1, ev, e1, hn, eh, r⟩ => ?_
  subst ev eh
  exact kk M0 _ H0 _ _ ((g.grow e1).new_mu n hn r)
/-- .. the name is one that a comprehension takes -/
theorem r_setLcC (n : Nat) {py spos : Pos} (cg : Cg P w K mg base k N sc X) (hf : ∀ x, X.fn x = true) (h : LcD X δ elt tg iter ifs scope own ds) (kk : RunS X (δ.set n (.mu ds)) rest D) (hn : N[n]? = some y := by rfl) (hy : sc.names.lookup y = some .cell := by rfl) (hk : sc.kind = .function := by rfl)
    (hs : ∀ x, foldedSetIterable iter X.env x = pure x := by intro _; rfl) : RunS X δ (.Assign [.Name y py] (.ListComp elt [⟨tg, iter, ifs, 0⟩] scope pos) spos :: rest) D := by
  refine r_setM n cg (l_lc cg h hs) kk (cg.nmC hf hn hy) ?_
  have ky : X.env.kindOf y = some .cell := by
    unfold Env.kindOf
    rw [cg.scp]
    exact hy
  have hb : X.env.blockKind = .function := by
    unfold Env.blockKind
    rw [cg.scp, hk]
    rfl
  unfold swapsWith
  simp only [ky, hb]
  rfl
end
end DL

namespace DL
open PySem PySem.Spec PyProof.Rows L2

/-! ### an object in the making: its fields -/
def putF (fs : List (Option Dt)) (j : Nat) (d : Dt) : List (Option Dt) := (fs ++ List.replicate (j + 1 - fs.length) none).set j (some d)
theorem putF_get {fs : List (Option Dt)} {j i : Nat} {d x : Dt} (h : (putF fs j d)[i]? = some (some x)) : (i = j ∧ x = d) ∨ (i ≠ j ∧ fs[i]? = some (some x)) := by
  unfold putF at h
  by_cases e : i = j
  · subst e
    rw [List.getElem?_set_self (by simp only [List.length_append, List.length_replicate]; omega)] at h
    exact .inl ⟨rfl, (Option.some.inj (Option.some.inj h)).symm⟩
  · rw [List.getElem?_set_ne (Ne.symm e)] at h
    refine .inr ⟨e, ?_⟩
    by_cases hl : i < fs.length
    · rw [List.getElem?_append_left hl] at h
      exact h
    · rw [List.getElem?_append_right (by omega), List.getElem?_replicate] at h
      split at h
      · cases h
      · cases h
def isOb : Sl → Bool
  | .ob _ _ => true
  | _ => false
/-- no other slot holds an object in the making -/
def soleOb (δ : List Sl) (i : Nat) : Bool := (δ.zipIdx.all fun q => q.2 == i || !isOb q.1)
theorem soleOb_ne {δ : List Sl} {i j : Nat} {C : Addr × Addr × Addr} {fs : List (Option Dt)} (h : soleOb δ i = true) (e : δ[j]? = some (.ob C fs)) : j = i := by
  unfold soleOb at h
  rw [List.all_eq_true] at h
  have hm : ((Sl.ob C fs), j) ∈ δ.zipIdx := by
    rw [List.mem_zipIdx_iff_getElem?]
    exact e
  have := h _ hm
  simpa [isOb] using this
section
variable {K : PySem.W.Frag} {M0 M : List Addr} {H0 H H' : Hp} {δ : List Sl} {σ : L2.St}
theorem Sg.setF (g : Sg K M0 M H0 δ σ H) {i : Nat} {C : Addr × Addr × Addr} {fs : List (Option Dt)} (h : δ[i]? = some (.ob C fs)) (so : soleOb δ i = true) {a dx : Addr} {vals : List (Option V)} (ha : σ[i]? = some (some (V.ref a))) (hs : SlX.Slt H a C.1 dx vals)
    (hdx : dx = C.2.2) (hf : ∀ (j : Nat) (d : Dt), fs[j]? = some (some d) → ∃ x, vals[j]? = some (some x) ∧ rep K d x (hid M H)) (j : Nat) {d : Dt} {v : V} (r : rep K d v (hid M H)) : Sg K M0 M H0 (δ.set i (.ob C (putF fs j d))) σ (SlX.slH H a C.1 dx (SlX.putS j v vals)) := by
  obtain ⟨a0, dx0, vals0, m1, m2, n1, n2, h1, h2, ne, hσ, ⟨⟨ea, ed⟩, hs0⟩, hu, _⟩ := g.is_ob i C fs h
  rw [ha] at hσ
  obtain rfl : a = a0 := V.ref.inj (Option.some.inj (Option.some.inj hσ))
  obtain rfl : dx = dx0 := hdx.trans ed.symm
  have heq : ∀ b, b ≠ a → b ≠ dx → SlX.slH H a C.1 dx (SlX.putS j v vals) b = H b := fun b q1 q2 => SlX.slH_ne q1 q2
  have hid_eq : hid M (SlX.slH H a C.1 dx (SlX.putS j v vals)) = hid M H := by
    funext b
    unfold hid
    split
    · rfl
    · rename_i hb
      exact heq b (fun z => hb (by rw [z]; exact m1)) fun z => hb (by rw [z]; exact m2)
  have look : ∀ {m : Nat} {s : Sl}, isOb s = false → (δ.set i (.ob C (putF fs j d)))[m]? = some s → m ≠ i ∧ δ[m]? = some s := fun {m s} hs q => by
    rcases get_set q with ⟨e, e2⟩ | ⟨e, q'⟩
    · rw [← e2] at hs
      cases hs
    · exact ⟨e, q'⟩
  have at_a : SlX.slH H a C.1 dx (SlX.putS j v vals) a = some (SlX.SlO a C.1 dx (SlX.putS j v vals)) := by
    unfold SlX.slH
    rw [upd_same]
  have at_d : SlX.slH H a C.1 dx (SlX.putS j v vals) dx = some (.xd []) := by
    unfold SlX.slH
    rw [upd_ne ne, upd_same]
  refine ⟨fun b o q => ?_, g.sub, g.own, fun l hl z => ?_, by rw [List.length_set]; exact g.len, fun m dm q => ?_, fun m ds q => ?_, fun m C' fs' q => ?_, fun m n dm dn hne q1 q2 => ?_⟩
  · rw [heq b (fun z => by rw [z, h1] at q; cases q) fun z => by rw [z, h2] at q; cases q]
    exact g.ext b o q
  · by_cases e1 : l = a
    · rw [e1, at_a] at z
      cases z
    · by_cases e2 : l = dx
      · rw [e2, at_d] at z
        cases z
      · rw [heq l e1 e2] at z
        exact g.dom l hl z
  · obtain ⟨_, q'⟩ := look rfl q
    rw [hid_eq]
    exact g.is_im m dm q'
  · obtain ⟨_, q'⟩ := look rfl q
    obtain ⟨l, xs, k1, k0, k2, k3, k4, k5⟩ := g.is_mu m ds q'
    rw [hid_eq]
    refine ⟨l, xs, k1, k0, k2, k3, ?_, k5⟩
    rw [heq l (fun z => slt_nl hs k4 z.symm) fun z => nl_ne hu k4 z.symm]
    exact k4
  · rcases get_set q with ⟨e, e2⟩ | ⟨e, q'⟩
    · cases e2
      rw [hid_eq, e]
      refine ⟨a, dx, SlX.putS j v vals, m1, m2, n1, n2, h1, h2, ne, ha, ⟨⟨ea, ed⟩, SlX.slH_slt ne⟩, ⟨_, at_d, fun xs z => by cases z⟩, fun n dn hn => ?_⟩
      rcases putF_get hn with ⟨e1, e2⟩ | ⟨e1, e2⟩
      · rw [e1, e2]
        exact ⟨v, SlX.putS_get j v vals, r⟩
      · obtain ⟨x, hx, hr⟩ := hf n dn e2
        exact ⟨x, (SlX.putS_ne e1).mpr hx, hr⟩
    · exact absurd (soleOb_ne so q') e
  · obtain ⟨_, q1'⟩ := look rfl q1
    obtain ⟨_, q2'⟩ := look rfl q2
    exact g.apart m n dm dn hne q1' q2'
end
section
variable {X : Cx} {δ : List Sl} {a b c e o : Expr} {es : List Expr} {pos apos p pos' : Pos} {R : Dt → Prop} {x f fl f1 f2 f3 : Str} {ds : List Dt} {d d1 d2 d3 : Dt} {D : DEnds} {rest : List Stmt} {C : Addr × Addr × Addr} {fs : List (Option Dt)}
variable {P : Program} {w : World} {K : PySem.W.Frag} {mg : Str → Option Value} {base : Heap} {k n j j1 j2 j3 : Nat} {N : List Str} {sc : Scope} {pr p1 p2 p3 : Addr}
/-- x.f, x an object in the making -/
theorem v_self (n : Nat) (sc1 : SlX.SCls X.K C.1) (sl : SlX.Slot1 X.K C.1 f pr j) (hd : δ[n]? = some (.ob C fs)) (hf : fs[j]? = some (some d)) (hN : X.N[n]? = some x := by first | rfl | exact Cg.na (by assumption) rfl)
    (hv : Vis X.env.scope x := by first | exact Or.inl rfl | exact Or.inr (Or.inl rfl) | exact Or.inr (Or.inr rfl) | exact Cg.vis (by assumption) (by first | exact Or.inl rfl | exact Or.inr (Or.inl rfl) | exact Or.inr (Or.inr rfl)))
    (h1 : (x == ("__debug__" : Str)) = false := by decide) (h2 : (x == ("__classdict__" : Str)) = false := by decide) (hb : attributeBase (.Name x p) f X.env (eval (.Name x p) X.env) = eval (.Name x p) X.env := by rfl) : EvD X δ (.Attribute (.Name x p) f pos) d := fun M0 M H0 σ H g => by
  obtain ⟨a, dx, vals, m1, m2, n1, n2, k1, k2, ne, hσ, ⟨_, hs⟩, hu, hfl⟩ := g.is_ob n C fs hd
  obtain ⟨v, hv2, r⟩ := hfl j d hf
  exact tev_of (SlX.pe_sl (pe_var hN hv h1 h2) hb) ⟨.ref a, hσ, a, C.1, dx, pr, vals, j, v, rfl, hs, sc1, sl, hv2, Ex.rfl, d, rfl, r⟩
/-- x.f = e -/
theorem r_fld (n : Nat) (sc1 : SlX.SCls X.K C.1) (sl : SlX.Slot1 X.K C.1 f pr j) (he : EvE X δ e R) (hd : δ[n]? = some (.ob C fs)) (kk : ∀ d, R d → RunS X (δ.set n (.ob C (putF fs j d))) rest D) (so : soleOb δ n = true := by rfl) (hN : X.N[n]? = some x := by first | rfl | exact Cg.na (by assumption) rfl)
    (hv : Vis X.env.scope x := by first | exact Or.inl rfl | exact Or.inr (Or.inl rfl) | exact Or.inr (Or.inr rfl) | exact Cg.vis (by assumption) (by first | exact Or.inl rfl | exact Or.inr (Or.inl rfl) | exact Or.inr (Or.inr rfl)))
    (h1 : (x == ("__debug__" : Str)) = false := by decide) (h2 : (x == ("__classdict__" : Str)) = false := by decide) (hs : swapsWith e (some (.Attribute (.Name x p) f pos')) pos.line X.env = pure false := by rfl) : RunS X δ (.Assign [.Attribute (.Name x p) f pos'] e pos :: rest) D :=
  r_of (SlX.ps_sl (pe_var hN hv h1 h2) pe_tev hs) fun M0 M H0 σ H g => tev_mono (he M0 M H0 σ H g) fun v H1 ⟨e1, d, rd, r⟩ => by
    have g1 := g.grow e1
    obtain ⟨a, dx, vals, m1, m2, n1, n2, k1, k2, ne, hσ, ⟨⟨ea, ed⟩, hs⟩, hu, hfl⟩ := g1.is_ob n C fs hd
    exact ⟨.ref a, hσ, a, C.1, dx, pr, vals, j, rfl, hs, sc1, sl, kk d rd M0 M H0 σ _ (g1.setF hd so hσ hs ed hfl j r)⟩
/-- a slot as a target -/
def gSl (K : PySem.W.Frag) (ta : TE) (f : Str) : TG := fun y σ H Q => ta σ H fun x H2 => ∃ a C dx p vs i, x = .ref a ∧ SlX.Slt H2 a C dx vs ∧ SlX.SCls K C ∧ SlX.Slot1 K C f p i ∧ Q σ (SlX.slH H2 a C dx (SlX.putS i y vs))
theorem pg_sl {ta : TE} (ha : PE X o ta) : PG X (.Attribute o f pos') (gSl X.K ta f) := by
  refine ⟨fun pins s σ H y u Q I ry h => ?_⟩
  rw [assign_Attribute]
  refine wpAny_bind (wpAny_holding (thn (ha.run pins s σ H _ I h) fun ov s2 ⟨x, H2, I2, rx, a, C, dx, p, vs, i, ex, hsl, c, t, q2⟩ => ?_))
  subst ex
  obtain rfl : ov = Value.ref a := rx
  exact wpAny_bind (wpAny_standAt (wpAny_bind (wpAny_holding (SlX.setslot_ok I2 hsl c t ry fun s3 I3 => wpAny_release ⟨σ, _, I3, q2⟩))))
/-- x.f1, x.f2, x.f3 = e -/
theorem r_fld3 (n : Nat) {q1 q2 q3 t1 t2 t3 tp : Pos} {kt : Nat} (cg : Cg P w K mg base k N sc X) (sc1 : SlX.SCls X.K C.1) (sl1 : SlX.Slot1 X.K C.1 f1 p1 j1) (sl2 : SlX.Slot1 X.K C.1 f2 p2 j2) (sl3 : SlX.Slot1 X.K C.1 f3 p3 j3) (he : EvD X δ e (.tup [d1, d2, d3])) (hd : δ[n]? = some (.ob C fs)) (hl : n < δ.length)
    (kk : RunS X (δ.set n (.ob C (putF (putF (putF fs j1 d1) j2 d2) j3 d3))) rest D) (so : soleOb δ n = true := by rfl) (hN : X.N[n]? = some x := by first | rfl | exact Cg.na (by assumption) rfl)
    (hv : Vis X.env.scope x := by first | exact Or.inl rfl | exact Or.inr (Or.inl rfl) | exact Or.inr (Or.inr rfl) | exact Cg.vis (by assumption) (by first | exact Or.inl rfl | exact Or.inr (Or.inl rfl) | exact Or.inr (Or.inr rfl)))
    (h1 : (x == ("__debug__" : Str)) = false := by decide) (h2 : (x == ("__classdict__" : Str)) = false := by decide)
    (hs : swapsWithSole [.Tuple [.Attribute (.Name x q1) f1 t1, .Attribute (.Name x q2) f2 t2, .Attribute (.Name x q3) f3 t3] kt tp] e pos.line X.env = pure false := by rfl)
    (hw : swappedStores [.Tuple [.Attribute (.Name x q1) f1 t1, .Attribute (.Name x q2) f2 t2, .Attribute (.Name x q3) f3 t3] kt tp] e X.env = pure none := by rfl) :
    RunS X δ (.Assign [.Tuple [.Attribute (.Name x q1) f1 t1, .Attribute (.Name x q2) f2 t2, .Attribute (.Name x q3) f3 t3] kt tp] e pos :: rest) D :=
  r_of (ps_asg pe_tev (pg_tup cg.calm (pgs_cons (pg_sl (pe_var hN hv h1 h2)) (pgs_cons (pg_sl (pe_var hN hv h1 h2)) (pgs_cons (pg_sl (pe_var hN hv h1 h2)) pgs_nil)))) hs hw) fun M0 M H0 σ H g => tev_mono (he M0 M H0 σ H g) fun v H1 ⟨e1, d, rd, r⟩ => by
    cases rd
    obtain ⟨l, xs, rfl, hq, r⟩ := rep_tup.mp r
    obtain ⟨v1, w1, rfl, r1, r⟩ := reps_cons.mp r
    obtain ⟨v2, w2, rfl, r2, r⟩ := reps_cons.mp r
    obtain ⟨v3, rfl, r3⟩ := one_of r
    have g1 := g.grow e1
    refine ⟨l, _, rfl, hid_ex.t hq, rfl, v1, _, rfl, ?_⟩
    obtain ⟨a, dx, vals, m1, m2, n1, n2, k1, k2, ne, hσ, ⟨⟨ea, ed⟩, hs⟩, hu, hfl⟩ := g1.is_ob n C fs hd
    have hide : ∀ {Hx Hy : Hp}, (∀ b, b ∉ M → Hx b = Hy b) → Ex (hid M Hx) (hid M Hy) := fun {Hx Hy} q b o h => by
      obtain ⟨h1, h2⟩ := hid_out h
      rw [hid_at h1, ← q b h1]
      exact h2
    have off : ∀ (Hx : Hp) (vs : List (Option V)) (b : Addr), b ∉ M → Hx b = SlX.slH Hx a C.1 dx vs b := fun Hx vs b hb => (SlX.slH_ne (fun z => hb (by rw [z]; exact m1)) fun z => hb (by rw [z]; exact m2)).symm
    have g2 := g1.setF hd so hσ hs ed hfl j1 r1
    have get : ∀ {δ : List Sl} {s : Sl}, n < δ.length → (δ.set n s)[n]? = some s := fun {δ s} h => List.getElem?_set_self h
    have sole : ∀ {δ : List Sl} {s : Sl}, soleOb δ n = true → soleOb (δ.set n s) n = true := fun {δ s} h => by
      unfold soleOb at h ⊢
      rw [List.all_eq_true] at h ⊢
      rintro ⟨t, m⟩ hm
      rw [List.mem_zipIdx_iff_getElem?] at hm
      rcases get_set (show (δ.set n s)[m]? = some t from hm) with ⟨e, _⟩ | ⟨e, q⟩
      · simp [e]
      · exact h (t, m) (by rw [List.mem_zipIdx_iff_getElem?]; exact q)
    refine ⟨.ref a, hσ, a, C.1, dx, p1, vals, j1, rfl, hs, sc1, sl1, v2, _, rfl, .ref a, hσ, ?_⟩
    obtain ⟨a', dx', vals2, m1', m2', _, _, _, _, ne', hσ', ⟨⟨ea', ed'⟩, hs2⟩, hu2, hfl2⟩ := g2.is_ob n C _ (get hl)
    obtain rfl : a' = a := ea'.trans ea.symm
    have g3 := g2.setF (get hl) (sole so) hσ hs2 ed' hfl2 j2 (rep_mono (hide (off H1 _)) r2)
    refine ⟨a', C.1, dx', p2, vals2, j2, rfl, hs2, sc1, sl2, v3, _, rfl, .ref a', hσ, ?_⟩
    obtain ⟨a2, dx2, vals3, _, _, _, _, _, _, ne2, hσ2, ⟨⟨ea2, ed2⟩, hs3⟩, hu3, hfl3⟩ := g3.is_ob n C _ (get (by rw [List.length_set]; exact hl))
    obtain rfl : a2 = a' := ea2.trans ea'.symm
    have off2 : ∀ (Hx : Hp) (vs : List (Option V)) (b : Addr), b ∉ M → Hx b = SlX.slH Hx a2 C.1 dx' vs b := fun Hx vs b hb => (SlX.slH_ne (fun z => hb (by rw [z]; exact m1')) fun z => hb (by rw [z]; exact m2')).symm
    have g4 := g3.setF (get (by rw [List.length_set]; exact hl)) (sole (sole so)) hσ hs3 ed2 hfl3 j3 (rep_mono (hide (off2 _ _)) (rep_mono (hide (off H1 _)) r3))
    refine ⟨a2, C.1, dx2, p3, vals3, j3, rfl, hs3, sc1, sl3, rfl, kk M0 M H0 σ _ ?_⟩
    rw [List.set_set, List.set_set] at g4
    exact g4
end
end DL

namespace DL
open PySem PySem.Spec PyProof.Rows L2

/-! ### a def keeps its promise -/
def startS (N : List Str) (ss : List Sl) : List Sl := ss ++ List.replicate (N.length - ss.length) .no
section
variable {K : PySem.W.Frag} {M : List Addr} {H H0 : Hp}
theorem Sg.pads {M0 : List Addr} {δ : List Sl} {σ : L2.St} (g : Sg K M0 M H0 δ σ H) : ∀ n : Nat, Sg K M0 M H0 (δ ++ List.replicate n .no) (σ ++ List.replicate n none) H
  | 0 => by
    rw [List.replicate_zero, List.replicate_zero, List.append_nil, List.append_nil]
    exact g
  | n + 1 => by
    have h := (g.pads n).push_no none
    rw [List.append_assoc, List.append_assoc, ← List.replicate_succ', ← List.replicate_succ'] at h
    exact h
theorem sg_empty (dom : ∀ l ∈ M, H l ≠ none) : Sg K M M H [] [] H :=
  ⟨Ex.rfl, fun _ h => h, fun _ h => .inl h, dom, rfl, fun i d h => by simp at h, fun i d h => by simp at h, fun i d f h => by simp at h, fun i j di dj _ h => by simp at h⟩
theorem sg_start {N : List Str} {ds : List Dt} {vs : List V} (dom : ∀ l ∈ M, H l ≠ none) (r : reps K ds vs (hid M H)) : Sg K M M H (startS N (ds.map .im)) (start N vs) H := by
  have h := (Sg.pushes (sg_empty dom) r (sg_empty dom)).pads (N.length - ds.length)
  unfold startS L2.start
  rw [List.length_map, ← reps_len r]
  exact h
end
section
variable {P : Program} {w : World} {K : PySem.W.Frag} {mg : Str → Option Value} {base : Heap} {k n : Nat} {N ps : List Str} {scope : Scope} {x qual : Str} {params : Arguments} {body : List Stmt} {f : Addr} {S : Sd}
/-- how a def without defaults binds -/
def BindP (x qual : Str) (params : Arguments) (body : List Stmt) (scope : Scope) (ps : List Str) : Prop := ∀ (kV doc pm : Value) (an : Option Addr) (cdv ct : Value) (us : List Value), us.length = ps.length → bindArgs (PySem.W.fnOf x qual params body scope .none kV doc pm an cdv ct) ⟨us, []⟩ = pure (ps.zip us)
theorem fn_ok (F : ∃ fd, FunD K x qual params body scope [] [] f fd) (Sc : FnScope N ps scope) (bind : BindP x qual params body scope ps) (len : ∀ ds R, S ds R → ds.length = ps.length)
    (hb : ∀ X, Cg P w K mg base n N scope X → (∀ x, X.fn x = true) → ∀ ds R, S ds R → RunS X (startS N (ds.map .im)) body { rt := R, nx := fun _ => R .non }) : FnA P w K mg base (n + 1) f S := by
  obtain ⟨fd, F⟩ := F
  have len2 : ∀ vs H Q E, spD K S vs H Q E → vs.length = ps.length := fun vs H Q E ⟨M, ds, R, dom, r, s, _⟩ => by
    rw [← reps_len r]
    exact len ds R s
  have ok : FnOk P w K mg base CX0 (n + 1) f fd ps (spD K S) := F.ok Sc len2 fun cdv A outer s H vs Q E hr ⟨M, ds, R, dom, r, hs, hq⟩ => by
    have cg : Cg P w K mg base n N scope (cxOf CX0 P w K mg base N qual scope f cdv A outer s H E).nox := ⟨rfl, rfl, rfl, rfl, rfl, rfl, rfl, Sc.nd, hr, rfl, rfl⟩
    refine ⟨_, PSs.nox (t := tes (cxOf CX0 P w K mg base N qual scope f cdv A outer s H E).nox body) pss_tes, ?_⟩
    refine tes_mono (hb _ cg (fun _ => rfl) ds R hs M M H (start N vs) H (sg_start dom r)) (fun σ' H' ⟨M', δ, q, g⟩ => ?_) (fun v H' ⟨d, rd, e, rv⟩ => hq d v H' rd e rv) (fun _ _ ⟨_, _, z, _⟩ => z.elim) fun _ _ ⟨_, _, z, _⟩ => z.elim
    exact hq .non .non H' q g.ext (rep_non.mpr rfl)
  obtain ⟨oc, od, dV, kV, doc, pm, an, cdv, ct, osl, efd, lk, hcd, hD, hK⟩ := F.ex
  have ed : dV = .none := by
    rcases hD with ⟨_, e⟩ | ⟨e, _⟩
    · exact e
    · exact absurd rfl e
  subst efd ed
  have raw := ok.raw (ds := []) (dvs := []) (Binds.all (bind kV doc pm an cdv ct)) .nil
  exact raw.imp fun vs H Q E h => by rw [List.append_nil]; exact h
/-- an __init__: it makes an object whose fields are in RF -/
theorem fnI_ok {C : Addr} {S : Si} (F : ∃ fd, FunD K x qual params body scope [] [] f fd) (Sc : FnScope N ps scope) (bind : BindP x qual params body scope ps) (len : ∀ ds R, S ds R → ds.length + 1 = ps.length)
    (hb : ∀ X, Cg P w K mg base n N scope X → (∀ x, X.fn x = true) → ∀ ds RF, S ds RF → ∀ a dx, RunS X (startS N (.ob (C, a, dx) [] :: ds.map .im)) body { nx := fun δ => ∃ fs δr, δ = .ob (C, a, dx) fs :: δr ∧ RF fs }) : FnR P w K mg base CX0 (n + 1) f (spI K C S) := by
  obtain ⟨fd, F⟩ := F
  have len2 : ∀ vs H Q E, spI K C S vs H Q E → vs.length = ps.length := fun vs H Q E ⟨M, G, y, dx, xs, ds, RF, e, _, _, _, _, _, r, s, _⟩ => by
    rw [e, List.length_cons, ← reps_len r]
    exact len ds RF s
  have ok : FnOk P w K mg base CX0 (n + 1) f fd ps (spI K C S) := F.ok Sc len2 fun cdv A outer s H vs Q E hr ⟨M, G, y, dx, xs, ds, RF, ev, hy, hdx, ne, eH, dom, r, hs, hq⟩ => by
    have cg : Cg P w K mg base n N scope (cxOf CX0 P w K mg base N qual scope f cdv A outer s H E).nox := ⟨rfl, rfl, rfl, rfl, rfl, rfl, rfl, Sc.nd, hr, rfl, rfl⟩
    refine ⟨_, PSs.nox (t := tes (cxOf CX0 P w K mg base N qual scope f cdv A outer s H E).nox body) pss_tes, ?_⟩
    subst ev eH
    have yM : y ∉ M := fun z => dom y z hy
    have dM : dx ∉ M := fun z => dom dx z hdx
    have hH : upd (upd G dx (.own y)) y (.ins C dx []) dx = some (.own y) := by rw [upd_ne ne, upd_same]
    have e1 : Ex G (upd (upd G dx (.own y)) y (.ins C dx [])) := (Ex.new hdx).trans (Ex.new (by rw [upd_ne (Ne.symm ne)]; exact hy))
    have e2 : Ex (hid M G) (hid (y :: dx :: M) (upd (upd G dx (.own y)) y (.ins C dx []))) := fun a o h => by
      obtain ⟨h1, h2⟩ := hid_out h
      have n1 : a ≠ y := fun z => by rw [z, hy] at h2; cases h2
      have n2 : a ≠ dx := fun z => by rw [z, hdx] at h2; cases h2
      rw [hid_at fun z => ?_]
      · exact e1 a o h2
      · rcases List.mem_cons.mp z with q | q
        · exact n1 q
        · rcases List.mem_cons.mp q with q | q
          · exact n2 q
          · exact h1 q
    have r2 := reps_mono e2 r
    have dom2 : ∀ l ∈ y :: dx :: M, upd (upd G dx (.own y)) y (.ins C dx []) l ≠ none := fun l hl => by
      rcases List.mem_cons.mp hl with q | q
      · rw [q, upd_same]
        exact fun z => nomatch z
      · rcases List.mem_cons.mp q with q | q
        · rw [q, hH]
          exact fun z => nomatch z
        · exact fun z => dom l q (e1.back z)
    have g0 : Sg K M (y :: dx :: M) G [.ob (C, y, dx) []] [some (.ref y)] (upd (upd G dx (.own y)) y (.ins C dx [])) := by
      refine ⟨e1, fun l hl => List.mem_cons_of_mem _ (List.mem_cons_of_mem _ hl), fun l hl => ?_, dom2, rfl, fun i d h => ?_, fun i d h => ?_, fun i C' fs h => ?_, fun i j di dj ne2 h1 h2 => ?_⟩
      · rcases List.mem_cons.mp hl with q | q
        · rw [q]
          exact .inr hy
        · rcases List.mem_cons.mp q with q | q
          · rw [q]
            exact .inr hdx
          · exact .inl q
      · match i, h with
        | 0, h => simp at h
        | i + 1, h => simp at h
      · match i, h with
        | 0, h => simp at h
        | i + 1, h => simp at h
      · match i, h with
        | 0, h =>
          simp at h
          obtain ⟨rfl, rfl⟩ := h
          exact ⟨y, dx, [], List.mem_cons_self, List.mem_cons_of_mem _ List.mem_cons_self, yM, dM, hy, hdx, ne, rfl, ⟨⟨rfl, rfl⟩, .inl ⟨upd_same, rfl⟩⟩, ⟨_, hH, fun xs z => by cases z⟩, fun j d hj => by simp at hj⟩
        | i + 1, h => simp at h
      · match i, h1 with
        | 0, h1 => simp at h1
        | i + 1, h1 => simp at h1
    have g1 := (Sg.pushes g0 r2 g0).pads (N.length - (ds.length + 1))
    have es : startS N (.ob (C, y, dx) [] :: ds.map .im) = [.ob (C, y, dx) []] ++ ds.map .im ++ List.replicate (N.length - (ds.length + 1)) .no := by
      unfold startS
      rw [List.length_cons, List.length_map]
      rfl
    have eo : start N (.ref y :: xs) = [some (.ref y)] ++ xs.map some ++ List.replicate (N.length - (ds.length + 1)) none := by
      unfold L2.start
      rw [List.length_cons, reps_len r]
      rfl
    have run := hb _ cg (fun _ => rfl) ds RF hs y dx
    rw [es] at run
    rw [eo]
    refine tes_mono (run M (y :: dx :: M) G _ _ g1) (fun σ' H' ⟨M', δ, ⟨fs, δr, eδ, rf⟩, g⟩ => ?_) (fun v H' ⟨d, z, _⟩ => z.elim) (fun _ _ ⟨_, _, z, _⟩ => z.elim) fun _ _ ⟨_, _, z, _⟩ => z.elim
    subst eδ
    obtain ⟨a, dx2, vals, m1, m2, n1, n2, k1, k2, ne2, hσ, ⟨⟨ea, ed⟩, hsl⟩, hu, hf⟩ := g.is_ob 0 (C, y, dx) fs rfl
    obtain rfl : a = y := ea
    obtain rfl : dx2 = dx := ed
    exact hq fs vals H' rf g.ext hsl fun j d hj => by
      obtain ⟨v, hv, rv⟩ := hf j d hj
      refine ⟨v, hv, rep_mono (hid_sub fun l hl => ?_) rv⟩
      rcases List.mem_cons.mp hl with q | q
      · exact q ▸ m1
      · rcases List.mem_cons.mp q with q | q
        · exact q ▸ m2
        · exact g.sub l q
  obtain ⟨oc, od, dV, kV, doc, pm, an, cdv, ct, osl, efd, lk, hcd, hD, hK⟩ := F.ex
  have ed : dV = .none := by
    rcases hD with ⟨_, e⟩ | ⟨e, _⟩
    · exact e
    · exact absurd rfl e
  subst efd ed
  have raw := ok.raw (ds := []) (dvs := []) (Binds.all (bind kV doc pm an cdv ct)) .nil
  exact raw.imp fun vs H Q E h => by rw [List.append_nil]; exact h
end
end DL

namespace DL
open PySem PySem.Spec PyProof.Rows L2

/-! ### less known of the slots -/
inductive Le : List Sl → List Sl → Prop where
  | nil : Le [] []
  | eq {s : Sl} {δ δ' : List Sl} (h : Le δ δ') : Le (s :: δ) (s :: δ')
  | no {s : Sl} {δ δ' : List Sl} (h : Le δ δ') : Le (s :: δ) (.no :: δ')
theorem Le.rfl : ∀ {δ : List Sl}, Le δ δ
  | [] => .nil
  | _ :: _ => .eq Le.rfl
theorem Le.len {δ δ' : List Sl} (h : Le δ δ') : δ.length = δ'.length := by
  induction h with
  | nil => rfl
  | eq _ ih => simp [ih]
  | no _ ih => simp [ih]
theorem Le.get {δ δ' : List Sl} (h : Le δ δ') : ∀ {i : Nat} {s : Sl}, δ'[i]? = some s → s = .no ∨ δ[i]? = some s := by
  induction h with
  | nil => intro i s q; simp at q
  | eq _ ih =>
    intro i s q
    cases i with
    | zero => exact .inr q
    | succ i => exact ih q
  | no _ ih =>
    intro i s q
    cases i with
    | zero =>
      simp at q
      exact .inl q.symm
    | succ i => exact ih q
theorem Sg.weak {K : PySem.W.Frag} {M0 M : List Addr} {H0 H : Hp} {δ δ' : List Sl} {σ : L2.St} (g : Sg K M0 M H0 δ σ H) (l : Le δ δ') : Sg K M0 M H0 δ' σ H := by
  refine ⟨g.ext, g.sub, g.own, g.dom, l.len.symm.trans g.len, fun i d h => ?_, fun i ds h => ?_, fun i C fs h => ?_, fun i j di dj ne h1 h2 => ?_⟩
  · rcases l.get h with q | q
    · cases q
    · exact g.is_im i d q
  · rcases l.get h with q | q
    · cases q
    · exact g.is_mu i ds q
  · rcases l.get h with q | q
    · cases q
    · exact g.is_ob i C fs q
  · rcases l.get h1 with q | q
    · cases q
    · rcases l.get h2 with q' | q'
      · cases q'
      · exact g.apart i j di dj ne q q'
theorem Le.trans {a b c : List Sl} (h : Le a b) (h2 : Le b c) : Le a c := by
  induction h generalizing c with
  | nil => exact h2
  | eq h ih =>
    cases h2 with
    | eq h3 => exact .eq (ih h3)
    | no h3 => exact .no (ih h3)
  | no h ih =>
    cases h2 with
    | eq h3 => exact .no (ih h3)
    | no h3 => exact .no (ih h3)
section
variable {X : Cx} {δ δ' : List Sl} {a b c e : Expr} {tg : Expr} {pos : Pos} {D : DEnds} {rest body : List Stmt} {ds : List Dt} {d : Dt}
variable {P : Program} {w : World} {K : PySem.W.Frag} {mg : Str → Option Value} {base : Heap} {k : Nat} {N : List Str} {sc : Scope}
theorem RunS.weak {st : List Stmt} (h : RunS X δ' st D) (l : Le δ δ') : RunS X δ st D := fun M0 M H0 σ H g => h M0 M H0 σ H (g.weak l)
/-- a for that folds F over xs; st: the slots by the state -/
theorem r_forF {α γ : Type} {xs : List α} {g : α → Dt} {is : List Nat} {δF : Nat → α → List Sl} (cg : Cg P w K mg base k N sc X) (hi : IterD X δ tg e (xs.map g)) (st : γ → List Sl) (F : γ → α → γ) (c0 : γ) (h0 : Le δ (st c0))
    (hs : ∀ n a, xs[n]? = some a → TgD X tg is (st ((xs.take n).foldl F c0)) (g a) (δF n a) ∧ RunS X (δF n a) body { D with nx := fun δ2 => Le δ2 (st (F ((xs.take n).foldl F c0) a)), ct := fun δ2 => Le δ2 (st (F ((xs.take n).foldl F c0) a)), bk := fun δ3 => RunS X δ3 rest D })
    (hd : RunS X (st (xs.foldl F c0)) rest D) (hf : ∀ x, foldedSetIterable e X.env x = pure x := by intro _; rfl) : RunS X δ (.For tg e body [] pos :: rest) D := by
  refine r_for cg hi (fun n δ' => Le δ' (st ((xs.take n).foldl F c0))) (by rw [List.take_zero]; exact h0) (fun n d δ' hd' l => ?_) (fun δ' l => ?_) hf
  · rw [List.getElem?_map] at hd'
    cases q : xs[n]? with
    | none =>
      rw [q] at hd'
      cases hd'
    | some a =>
      rw [q] at hd'
      obtain rfl : g a = d := Option.some.inj hd'
      obtain ⟨h1, h2⟩ := hs n a q
      have tk : xs.take (n + 1) = xs.take n ++ [a] := by rw [List.take_add_one, q]; rfl
      refine ⟨is, _, fun M0 M H0 σ H v gg r => h1 M0 M H0 σ H v (gg.weak l) r, ?_⟩
      rw [tk, List.foldl_append]
      exact h2
  · rw [List.length_map, List.take_length] at l
    exact hd.weak l
theorem enumD_row {r : List Int} : enumD (rowD r) = r.zipIdx.map fun q => Dt.tup [.int (q.2 : Nat), .int q.1] := by
  unfold enumD rowD
  rw [List.zipIdx_map, List.map_map]
  rfl
theorem zipD_row {r s : List Int} : zipD (rowD r) (rowD s) = (r.zip s).map fun q => Dt.tup [.int q.1, .int q.2] := by
  unfold zipD rowD
  rw [List.zip_map, List.map_map]
  rfl
theorem cutD_row {r : List Int} {lo hi : Option Int} : cutD (rowD r) lo hi = rowD ((r.drop (HT.sIx r.length 0 lo)).take (HT.sIx r.length r.length hi - HT.sIx r.length 0 lo)) := by
  unfold cutD rowD
  rw [List.length_map, List.map_take, List.map_drop]
theorem sIx_nat {m d n : Nat} : HT.sIx m d (some (n : Int)) = min n m := by
  show (if (n : Int) < 0 then ((n : Int) + (m : Int)).toNat else min (n : Int).toNat m) = _
  rw [if_neg (by omega), Int.toNat_natCast]
theorem cutD_to {r : List Int} {n : Nat} (h : n ≤ r.length) : cutD (rowD r) none (some (n : Int)) = rowD (r.take n) := by
  rw [cutD_row, sIx_nat, Nat.min_eq_left h]
  show rowD ((r.drop 0).take (n - 0)) = _
  rw [Nat.sub_zero, List.drop_zero]
theorem cutD_from {r : List Int} {n : Nat} (h : n ≤ r.length) : cutD (rowD r) (some (n : Int)) none = rowD (r.drop n) := by
  rw [cutD_row, sIx_nat, Nat.min_eq_left h]
  show rowD ((r.drop n).take (r.length - n)) = _
  congr 1
  exact List.take_of_length_le (by rw [List.length_drop]; omega)
theorem atI_row {r : List Int} {i : Int} (h0 : 0 ≤ i) (h1 : i < r.length) : atI (rowD r) i = some (.int (r[i.toNat]?.getD 0)) := by
  unfold atI rowD ixN
  rw [List.length_map, if_pos h0, if_pos h1]
  show (r.map Dt.int)[i.toNat]? = _
  have hl : i.toNat < r.length := by omega
  rw [List.getElem?_map, List.getElem?_eq_getElem hl]
  rfl
theorem atI_rowL {r : List Int} (h : r ≠ []) : atI (rowD r) (-1) = some (.int (r.getLastD 0)) := by
  have hl : 0 < r.length := List.length_pos_iff.mpr h
  unfold atI rowD ixN
  rw [List.length_map, if_neg (by omega), if_pos (by omega)]
  show (r.map Dt.int)[((-1 : Int) + r.length).toNat]? = _
  have e : ((-1 : Int) + r.length).toNat = r.length - 1 := by omega
  rw [e, List.getElem?_map, List.getElem?_eq_getElem (by omega)]
  show some (Dt.int (r[r.length - 1]'(by omega))) = _
  rw [← List.getLast_eq_getElem h, List.getLastD_eq_getLast?, List.getLast?_eq_some_getLast h]
  rfl
/-- tuple(x), x a list that is being changed -/
theorem v_tupM (n : Nat) {x : Str} {p p' : Pos} (hd : δ[n]? = some (Sl.mu ds)) (hm : X.mg "tuple" = none := by first | assumption | exact Cg.bf (by assumption) (by assumption) rfl) (hg : Gl X "tuple" := by first | rfl | exact Cg.gl (by assumption) rfl)
    (hN : X.N[n]? = some x := by first | rfl | exact Cg.na (by assumption) rfl) (hv : Vis X.env.scope x := by first | exact Or.inl rfl | exact Or.inr (Or.inl rfl) | exact Or.inr (Or.inr rfl) | exact Cg.vis (by assumption) (by first | exact Or.inl rfl | exact Or.inr (Or.inl rfl) | exact Or.inr (Or.inr rfl)))
    (he : starEach [(.Name x p)] X.env = (false, eval (.Name x p) X.env) :: starEach [] X.env := by rfl) (hpl : (backTo pos (starEach [] X.env)).any (·.1) = false := by rfl)
    (h1 : (x == ("__debug__" : Str)) = false := by decide) (h2 : (x == ("__classdict__" : Str)) = false := by decide) : EvD X δ (.Call (.Name "tuple" p') [(.Name x p)] [] pos) (.tup ds) := fun M0 M H0 σ H g => by
  obtain ⟨l, xs, k1, k2, k3, k4, k5, k6⟩ := g.is_mu n ds hd
  exact tev_of (pe_callTy call_tuple_of hg hm (by decide +kernel) (pa_cons (pe_var hN hv h1 h2) pa_nil he) (by decide) (by decide) he hpl) ⟨.ref l, k4, l, xs, rfl, .inl ⟨SqL.of k5, fun p hp => ⟨Ex.new hp, _, rfl, rep_new g.dom hp k6⟩⟩⟩

/-! ### x in a tuple of integers -/
theorem inV_int {i : Int} : ∀ {r : List Int}, inV (.int i) (r.map V.int) = decide (i ∈ r)
  | [] => rfl
  | j :: r => by
    have ih := inV_int (i := i) (r := r)
    unfold inV at ih ⊢
    rw [List.map_cons, List.any_cons, ih]
    show ((j == i) || decide (i ∈ r)) = _
    rw [Bool.eq_iff_iff]
    simp only [Bool.or_eq_true, beq_iff_eq, decide_eq_true_eq, List.mem_cons]
    exact or_congr eq_comm Iff.rfl
theorem flat_int {r : List Int} : (r.map V.int).all flatV = true := by
  rw [List.all_eq_true]
  intro x hx
  obtain ⟨i, _, rfl⟩ := List.mem_map.mp hx
  rfl
theorem od_inT {i : Int} {r : List Int} : OpD X (rIn X.K false) (.int i) (.tup (rowD r)) (is_ (.bl (decide (i ∈ r)))) := fun M H vx vy _ rx ry => by
  obtain ⟨a, xs, rfl, h1, h2⟩ := rep_tup.mp ry
  rw [rep_int.mp rx]
  rw [reps_int.mp h2] at h1
  exact ⟨a, _, rfl, .inr (hid_ex.t h1), rfl, flat_int, Ex.rfl, _, rfl, by rw [inV_int]; exact rb _⟩
theorem v_inT {i : Int} {r : List Int} (ha : EvD X δ a (.int i)) (hb : EvD X δ b (.tup (rowD r))) (hm : behindInMarks .In b = false := by rfl) : EvD X δ (.Compare a [.In] [b] pos) (.bl (decide (i ∈ r))) := v_cmp op_in_seq ha hb (d2 od_inT) hm

/-! ### tuple[::-1] -/
theorem rev_adj (n : Nat) : Builtin.Slice.sliceAdjust none none (-1) (n : Int) = ((n : Int) - 1, -1) := by
  unfold Builtin.Slice.sliceAdjust
  have h1 : ((-1 : Int) < 0) := by omega
  simp only [h1, if_true]
theorem rev_places (n : Nat) : Builtin.Slice.slicePlaces ((n : Int) - 1) (-1) (-1) = n := by
  unfold Builtin.Slice.slicePlaces
  have h1 : ¬ ((-1 : Int) > 0) := by omega
  simp only [h1, if_false]
  split
  · simp only [Int.neg_neg, Int.ediv_one]
    omega
  · omega
theorem rev_applied {prog : Program} {w : World} {A : Around} {E : Value → Shared → Prop} {s : Shared} {sl : Addr} {vl vu vs : Value} {n : Nat} {Q : Int × Int × Nat → Shared → Prop} (hs : s.heap.IsSliceOf sl vl vu vs) (pl : IsPart vl none) (pu : IsPart vu none) (ps : IsPart vs (some (-1)))
    (h : Q ((n : Int) - 1, -1, n) s) : wpAny (model prog w) A (Builtin.Slice.sliceApplied (.ref sl) (pure (n : Int))) Q E s := by
  rcases hs with ⟨os, h1, h2, h3⟩
  cases pl
  cases pu
  cases ps with
  | int i t =>
    unfold Builtin.Slice.sliceApplied Builtin.Slice.sliceFields
    apply wpAny_bind
    apply wpAny_bind
    refine wpAny_field h1 h3 (x := .none) rfl ?_
    apply wpAny_bind
    refine wpAny_field h1 h3 (x := .none) rfl ?_
    apply wpAny_bind
    refine wpAny_field h1 h3 (x := .int (-1) t) rfl ?_
    apply wpAny_pure
    apply wpAny_bind
    apply slicePart_int
    show wpAny _ _ (if ((-1 : Int) == 0) = true then _ else _) _ _ s
    rw [if_neg (by decide)]
    apply wpAny_bind
    apply slicePart_none
    apply wpAny_bind
    apply slicePart_none
    apply wpAny_bind
    apply wpAny_pure
    show wpAny _ _ (match Builtin.Slice.sliceAdjust none none (-1) (n : Int) with | (lo, hi) => pure (lo, (-1 : Int), Builtin.Slice.slicePlaces lo hi (-1))) _ _ s
    rw [rev_adj n]
    show wpAny _ _ (pure ((n : Int) - 1, (-1 : Int), Builtin.Slice.slicePlaces ((n : Int) - 1) (-1) (-1))) _ _ s
    rw [rev_places]
    exact wpAny_pure h
theorem rev_pick (xs : List Value) : ((List.range xs.length).filterMap fun (k : Nat) => xs.toArray[((xs.length : Int) - 1 + (k : Int) * -1).toNat]?) = xs.reverse := by
  have key : ∀ n : Nat, n ≤ xs.length → ((List.range n).filterMap fun (k : Nat) => xs.toArray[((xs.length : Int) - 1 + (k : Int) * -1).toNat]?) = xs.reverse.take n := by
    intro n
    induction n with
    | zero => intro _; simp
    | succ n ih =>
      intro hn
      have hl : xs.length - 1 - n < xs.length := by omega
      have e1 : ((xs.length : Int) - 1 + (n : Int) * -1).toNat = xs.length - 1 - n := by omega
      rw [List.range_succ, List.filterMap_append, ih (by omega), List.take_add_one]
      congr 1
      rw [List.filterMap_cons, e1, List.getElem?_toArray, List.getElem?_reverse (by omega), List.getElem?_eq_getElem hl]
      rfl
  rw [key _ (Nat.le_refl _), List.take_of_length_le (by rw [List.length_reverse]; exact Nat.le_refl _)]
theorem getItem_rev {prog : Program} {w : World} {A : Around} {E : Value → Shared → Prop} {s : Shared} {t sl : Addr} {xs : List Value} {vl vu vs : Value} {Q : Value → Shared → Prop} (ht : IsTup s.heap t xs.toArray) (hs : s.heap.IsSliceOf sl vl vu vs) (pl : IsPart vl none) (pu : IsPart vu none) (ps : IsPart vs (some (-1)))
    (h : Q (.ref s.heap.objs.size) { s with heap := s.heap.push { cls := .type "tuple", data := .seq xs.reverse.toArray } }) (hz : xs.length ≤ sizeLine) : wpAny (model prog w) A (getItem (.ref t) (.ref sl)) Q E s := by
  have fits : sizeOk (.seq xs.reverse.toArray) := by
    show xs.reverse.toArray.size ≤ sizeLine
    rw [List.size_toArray, List.length_reverse]
    exact hz
  have tS : s.TypeIs (.ref sl) "slice" := by
    rcases hs with ⟨os, h1, h2, h3⟩
    exact ⟨os, h1, h2⟩
  unfold getItem
  try with_reducible apply wpAny_holding
  first | (apply wpAny_bind; apply wpAny_pure) | skip
  apply wpAny_bind
  refine wpAny_sequenceKey ht.typeIs (by decide) ?_
  apply wpAny_bind
  refine wpAny_callSpecial?_slot (name := Str.ofString "__getitem__") ht.typeIs PyProof.Rows.slot_tuple_getitem (wpAny_call_entry PyProof.Rows.slot_tuple_getitem ht.typeIs PyProof.Rows.entry_tuple_getitem ?_ (PyProof.Rows.args_tuple_getitem _ _))
  show wpAny _ _ (Builtin.Tuple.tupleItemsOf (.ref t) >>= _) _ _ s
  apply wpAny_bind
  refine PyProof.Rows.tupleItemsOf_ ht ?_
  apply wpAny_bind
  refine wpAny_typeOf tS ?_
  rw [if_pos (by decide)]
  apply wpAny_bind
  have es : xs.toArray.size = xs.length := List.size_toArray
  rw [es]
  refine rev_applied hs pl pu ps ?_
  show wpAny _ _ (if (((xs.length : Int) - 1) == 0 && (-1 : Int) == 1 && xs.length == xs.length) = true then _ else _) _ _ s
  rw [if_neg (by rw [show ((-1 : Int) == 1) = false from rfl, Bool.and_false, Bool.false_and]; exact Bool.false_ne_true), rev_pick]
  first
    | exact wpAny_bind (m := Builtin.Tuple.tupleExact _) (wpAny_newObj_type (wpAny_pure ⟨_, rfl, wpAny_pure h⟩) fits)
    | exact wpAny_bind (wpAny_bind (m := Builtin.Tuple.tupleExact _) (wpAny_newObj_type (wpAny_pure (wpAny_pure ⟨_, rfl, wpAny_pure h⟩)) fits))
    | exact wpAny_bind (wpAny_bind (m := Builtin.Tuple.tupleExact _) (wpAny_newObj_type (wpAny_pure ⟨_, rfl, wpAny_pure h⟩) fits))
def tRevT (K : PySem.W.Frag) (te : TE) : TE := fun σ H Q => te σ H fun x H1 => ∃ a xs, x = .ref a ∧ SqT K H1 a xs ∧ ∀ p, H1 p = none → Q (.ref p) (upd H1 p (.tup xs.reverse))
theorem pe_revT {te : TE} {k : Nat} {p1 p2 p3 : Pos} (he : PE X e te) : PE X (.Subscript e (.Slice none none (some (.UnaryOp .USub (.Constant (.int 1) k p1) p2)) p3) pos) (tRevT X.K te) := ⟨fun pins s σ H Q I h => by
  apply Subscript_
  refine thn (he.run pins s σ H _ I h) fun v s1 ⟨x, H1, I1, rx, a, xs, ex, hx, q⟩ => ?_
  subst ex
  cases rx
  have last : PO X (some (.UnaryOp .USub (.Constant (.int 1) k p1) p2)) (tPart (tUn (rU fun i => .int (-i)) (tC (.int 1)))) := po_some (pe_un un_neg pe_int)
  apply wpAny_Slice
  refine thn (po_none.run pins s1 σ H1 (fun o H2 => o = none ∧ H2 = H1) I1 ⟨rfl, rfl⟩) fun vl s2 ⟨l, H2, I2, pl, e1, e2⟩ => ?_
  subst e1 e2
  refine thn (po_none.run pins s2 σ H2 (fun o H3 => o = none ∧ H3 = H2) I2 ⟨rfl, rfl⟩) fun vu s3 ⟨u, H3, I3, pu, e1, e2⟩ => ?_
  subst e1 e2
  refine thn (last.run pins s3 σ H3 (fun o H4 => o = some (-1) ∧ H4 = H3) I3 ⟨1, rfl, -1, rfl, rfl, rfl⟩) fun vs s4 ⟨o, H4, I4, ps, e1, e2⟩ => ?_
  subst e1 e2
  have J : Inv X pins σ H4 { s4 with heap := s4.heap.push { cls := .type "slice", data := .fields #[vl, vu, vs] } } := I4.kept (t' := s4.toks) fun _ _ q => Heap.get?_push_of_some _ q
  obtain ⟨its, rv, ht, hz⟩ := J.tuple hx
  have hl := rv.length
  show wpAny (model X.prog X.w) X.A (subscriptTail e (.Slice none none (some (.UnaryOp .USub (.Constant (.int 1) k p1) p2)) p3) (.ref a) (.ref s4.heap.objs.size)) (EP X pins σ Q) X.xe { s4 with heap := s4.heap.push { cls := .type "slice", data := .fields #[vl, vu, vs] } }
  refine tail_any (ops := [.ref a, .ref s4.heap.objs.size]) ht.typeIs PyProof.Rows.slot_tuple_getitem.lookup ?_ (by with_unfolding_all rfl)
  refine getItem_rev ht (Heap.IsSliceOf.new _ vl vu vs) pl pu ps ?_ (by omega)
  refine ⟨.ref _, _, J.laid (t' := s4.toks) (o := .tup xs.reverse) (fun _ _ q => Heap.get?_push_of_some _ q) (Nat.le_refl _) ?_, rfl, q _ (J.hok.fresh (Nat.le_refl _))⟩
  exact ⟨by rw [List.length_reverse]; exact hz, its.reverse, rv.reverse, IsTup.new _ _⟩⟩
theorem v_revT {q : Nat} {p1 p2 p3 : Pos} (ha : EvD X δ a (.tup ds)) : EvD X δ (.Subscript a (.Slice none none (some (.UnaryOp .USub (.Constant (.int 1) q p1) p2)) p3) pos) (.tup ds.reverse) := fun M0 M H0 σ H g =>
  tev_of (pe_revT pe_tev) (tev_mono (ha M0 M H0 σ H g) fun v H1 ⟨e1, d, rd, q⟩ => by
    cases rd
    obtain ⟨a, xs, rfl, h1, h2⟩ := rep_tup.mp q
    exact ⟨a, xs, rfl, hid_ex.t h1, fun p hp => ⟨e1.trans (Ex.new hp), _, rfl, rep_new (g.grow e1).dom hp (reps_rev h2)⟩⟩)
end
end DL

namespace DL
open PySem PySem.Spec PyProof.Rows L2

/-! ### tuple * n, n from 0 on -/
theorem tup_mul1 (l : Addr) (items : Array Value) (n : Nat) (dd : Option Addr) (sl : Array (Option Value)) (u : Tok) :
    Meets (Builtin.«tuple.__mul__» ⟨[.ref l, .int 1 u], []⟩) fun _ R s => s.heap.get? l = some { cls := .type "tuple", dict := dd, data := .seq items n, slots := sl } ∧ R (.ok (.ret (.ref l))) s :=
  .of_wp fun prog w A R s hyp => by
    rcases s with ⟨hp, g, d, tk, os⟩
    rcases hyp with ⟨hl, fin⟩
    have f1 := AutoSeq1.idx_int
    have c1 : (items.isEmpty || (1 : Int) == 1) = true := by rw [Bool.or_eq_true]; exact .inr rfl
    wp_walk using wpAny_loadPart' hl
    repeat (first
      | (refine wpAny_ite_true (decide_eq_true c1) ?_; wp_walk using wpAny_loadPart' hl)
      | (refine wpAny_ite_true c1 ?_; wp_walk using wpAny_loadPart' hl))
    exact ⟨_, rfl, fin⟩
theorem tup_mul0 (l : Addr) (items : Array Value) (n : Nat) (dd : Option Addr) (sl : Array (Option Value)) (u : Tok) (ne : items.isEmpty = false) :
    Meets (Builtin.«tuple.__mul__» ⟨[.ref l, .int 0 u], []⟩) fun _ R s => s.heap.get? l = some { cls := .type "tuple", dict := dd, data := .seq items n, slots := sl } ∧ R (.ok (.ret (.ref s.heap.objs.size))) { s with heap := s.heap.push { cls := .type "tuple", data := .seq #[] } } :=
  .of_wp fun prog w A R s hyp => by
    rcases s with ⟨hp, g, d, tk, os⟩
    rcases hyp with ⟨hl, fin⟩
    have f1 := AutoSeq1.idx_int
    have no1 : (items.isEmpty || (0 : Int) == 1) = false := by rw [ne]; rfl
    have yes2 : (decide ((0 : Int) ≤ 0) || items.isEmpty) = true := rfl
    wp_walk using wpAny_loadPart' hl
    repeat (first
      | (refine wpAny_ite_false (decide_eq_false (by rw [no1]; exact Bool.false_ne_true)) ?_; wp_walk using wpAny_loadPart' hl)
      | (refine wpAny_ite_false no1 ?_; wp_walk using wpAny_loadPart' hl)
      | (refine wpAny_ite_true (decide_eq_true yes2) ?_; wp_walk using wpAny_loadPart' hl)
      | (refine wpAny_ite_true yes2 ?_; wp_walk using wpAny_loadPart' hl))
    exact ⟨_, rfl, fin⟩
section
variable {X : Cx}
/-- t * k, k = 0 or 1 -/
def rRep01 (K : PySem.W.Frag) : R2 := fun x y H Q => ∃ l k xs, x = .ref l ∧ y = .int k ∧ SqT K H l xs ∧ xs ≠ [] ∧ ((k = 1 ∧ Q (.ref l) H) ∨ (k = 0 ∧ ∀ p, H p = none → Q (.ref p) (upd H p (.tup []))))
theorem op_rep01 : OpR X (binaryOp .Mult) (rRep01 X.K) := by
  intro pins s σ H x y v u Q I rx ry hyp
  rcases hyp with ⟨l, k, xs, rfl, rfl, hT, hne, hk⟩
  cases rx
  rcases ry with ⟨t, rfl⟩
  obtain ⟨its, rv, ⟨⟨cls, dd, data, sl⟩, ho, hc, n, hd⟩, hz⟩ := I.tuple hT
  simp only at hc hd
  subst hc hd
  have hi : its.toArray.isEmpty = false := by
    cases its with
    | nil => exact absurd (List.eq_nil_of_length_eq_zero rv.length) hne
    | cons a b => rfl
  rcases hk with ⟨rfl, q⟩ | ⟨rfl, q⟩
  · refine wpAny_binaryOp_repeat_ref (T := "tuple") (U := "int") (by decide) ⟨_, ho, rfl⟩ (fun s' => typeIs_int s' 1 t) noFill_tuple_mul F.fills_int_mul F.slot_int_rmul repeat_tuple F.slot_int_index.lookup ?_
    refine call_meets F.slot_int_rmul (typeIs_int s 1 t) F.entry_int_rmul (F.args_int_rmul_2 _ _) (int_rmul_tuple 1 t l its.toArray n dd sl) ⟨ho, rfl, ⟨_, ho, rfl⟩, ?_⟩
    exact call_meets F.slot_tuple_mul ⟨_, ho, rfl⟩ F.entry_tuple_mul (F.args_tuple_mul_2 _ _) (tup_mul1 l its.toArray n dd sl t) ⟨ho, .ref l, H, I, rfl, q⟩
  · refine wpAny_binaryOp_repeat_ref (T := "tuple") (U := "int") (by decide) ⟨_, ho, rfl⟩ (fun s' => typeIs_int s' 0 t) noFill_tuple_mul F.fills_int_mul F.slot_int_rmul repeat_tuple F.slot_int_index.lookup ?_
    refine call_meets F.slot_int_rmul (typeIs_int s 0 t) F.entry_int_rmul (F.args_int_rmul_2 _ _) (int_rmul_tuple 0 t l its.toArray n dd sl) ⟨ho, rfl, ⟨_, ho, rfl⟩, ?_⟩
    refine call_meets F.slot_tuple_mul ⟨_, ho, rfl⟩ F.entry_tuple_mul (F.args_tuple_mul_2 _ _) (tup_mul0 l its.toArray n dd sl t hi) ⟨ho, ?_⟩
    exact ⟨.ref s.heap.objs.size, _, I.laid (t' := s.toks) (o := .tup []) (fun _ _ q => Heap.get?_push_of_some _ q) (Nat.le_refl _) ⟨by show 0 ≤ sizeLine; exact Nat.zero_le _, [], .nil, IsTup.new _ _⟩, rfl, q _ (I.hok.fresh (Nat.le_refl _))⟩
variable {δ : List Sl} {a b : Expr} {pos : Pos} {ds : List Dt} {d : Dt} {n : Int}
theorem v_repT (h0 : 0 ≤ n) (h1 : n ≤ 1000) (ha : EvD X δ a (.tup [d])) (hb : EvD X δ b (.int n)) : EvD X δ (.BinOp a .Mult b pos) (.tup (List.replicate n.toNat d)) := by
  have fl : (List.replicate n.toNat [d]).flatten = List.replicate n.toNat d := by
    generalize n.toNat = m
    induction m with
    | zero => rfl
    | succ m ih => rw [List.replicate_succ, List.flatten_cons, ih, List.replicate_succ]; rfl
  by_cases h2 : 2 ≤ n
  · refine v_op op_repT ha hb (d2 fun M H vx vy dom rx ry => ?_)
    obtain ⟨l, xs, rfl, hq, hr⟩ := rep_tup.mp rx
    have hl := reps_len hr
    refine ⟨l, n, xs, rfl, rep_int.mp ry, hid_ex.t hq, (fun z => by rw [z] at hl; cases hl), h2, h1, (by rw [← hl]; show 1 ≤ 1000; decide), fun p hp => ⟨Ex.new hp, _, rfl, rep_new dom hp ?_⟩⟩
    have := reps_rep hr n.toNat
    rw [fl] at this
    exact this
  · refine v_op op_rep01 ha hb (d2 fun M H vx vy dom rx ry => ?_)
    obtain ⟨l, xs, rfl, hq, hr⟩ := rep_tup.mp rx
    have hl := reps_len hr
    refine ⟨l, n, xs, rfl, rep_int.mp ry, hid_ex.t hq, (fun z => by rw [z] at hl; cases hl), ?_⟩
    by_cases e : n = 1
    · subst e
      exact .inl ⟨rfl, Ex.rfl, _, rfl, rx⟩
    · have e0 : n = 0 := by omega
      subst e0
      exact .inr ⟨rfl, fun p hp => ⟨Ex.new hp, _, rfl, rep_new dom hp (reps_nil.mpr rfl)⟩⟩
end

/-! ### a != b by an own __eq__ (object.__ne__ asks it) -/
section
variable {prog : Program} {w : World} {A : Around} {E : Value → Shared → Prop} {s : Shared} {K : PySem.W.Frag} {x C f : Addr} {ox : Obj} {od : Option Obj} {b : Value}
theorem bound_b {A : Around} {E : Value → Shared → Prop} {args : List Value} {Q : Option Value → Shared → Prop} {name : Str} {id : String} {B : String} (S : Slot B name id) (Xk : K.In s.heap) (I : PySem.W.InstAt s.heap x ox C od) (hs : PySem.W.findIn K (.ref C) name = some (some (.builtin id)))
    (h : wpAny (model prog w) A (call (.builtin id) (.ref x :: args)) (fun v => Q (some v)) E s) : wpAny (model prog w) A (callSpecialIfBound? (.ref x) name args) Q E s := by
  simp only [callSpecialIfBound?, bindSpecialIfBound?]
  have fin : wpAny (model prog w) A (call (.builtin id) ([.ref x] ++ args) >>= fun v => pure (some v)) Q E s := wpAny_bind (wpAny_mono h (fun v s' q => wpAny_pure q) fun _ _ q => q)
  refine wpAny_holding (wpAny_bind (wpAny_bind (wpAny_bind (I.type.here ((PySem.W.looks_findIn Xk hs).here ?_)))))
  simp only [S.bind]
  refine wpAny_bind (wpAny_askSetting (wpAny_ite ?_))
  split
  · exact wpAny_bind (wpAny_pure (wpAny_pure fin))
  · exact wpAny_tryCatch (wpAny_bind (wpAny_pure (wpAny_pure fin)))
theorem ne_obj {Q : Value → Shared → Prop} (hu : A.units + 1 < cLine) (Xk : K.In s.heap) (I : PySem.W.InstAt s.heap x ox C od) (hp : PySem.W.plainOver K C = true) (he : PySem.W.findIn K (.ref C) "__eq__" = some (some (.ref f))) (hf : PySem.W.isFn K (.ref f) = true)
    (h : wpAny (model prog w) A.in1 (call (.ref f) [.ref x, b]) (fun v s' => ∃ q, v = .bool q ∧ Q (.bool (!q)) s') E s) : wpAny (model prog w) A (call (.builtin "object.__ne__") [.ref x, b]) Q E s := by
  obtain ⟨cd, hc, ho⟩ := PySem.W.any_some hp
  have ne : cd.mro.isEmpty = false := by cases q : cd.mro with | nil => rw [q] at ho; cases ho | cons _ _ => rfl
  have sub : PySem.W.Looks (model prog w) s.heap (isInstance (.ref x) (.type "object")) true := I.type.andThen (PySem.W.looks_mroIn Xk (by unfold PySem.W.mroIn; rw [hc, Option.bind_some, if_neg (by rw [ne]; decide), PySem.W.only_has ho]))
  refine wpAny_call (codeAny_call_builtin F.cmp_object.ne.plain F.cmpEntry_ne (PySem.W.check_slot F.cmpKind_ne F.cmpSplit_ne sub (F.cmpArgs_ne _ _) ?_))
  unfold Builtin.«object.__ne__»
  repeat (first
    | with_reducible refine wpAny_cRoomFor (Nat.lt_of_succ_lt hu) ?_
    | with_reducible refine wpAny_cRoomFor hu ?_
    | (refine wpAny_bind (m := callSpecialIfBound? (.ref x) (Str.ofString "__eq__") [b]) (PySem.W.ifBound_K Xk I he hf (wpAny_mono h (fun r s' hr => ?_) fun _ _ e => e))
       obtain ⟨q, rfl, hq⟩ := hr
       repeat (first | exact hq | exact wpAny_pure hq | exact wpAny_truthy_bool hq | (refine wpAny_bind (m := truthy (.bool _)) (wpAny_truthy_bool ?_)) | wp_step))
    | wp_step)
theorem ne_K {Q : Value → Shared → Prop} (hu : A.units + 2 < cLine) (Xk : K.In s.heap) (I : PySem.W.InstAt s.heap x ox C od) (hb : PySem.W.Looks (model prog w) s.heap (typeOf b) (.ref C)) (hp : PySem.W.plainOver K C = true) (hn : PySem.W.findIn K (.ref C) "__ne__" = some (some (.builtin "object.__ne__")))
    (he : PySem.W.findIn K (.ref C) "__eq__" = some (some (.ref f))) (hf : PySem.W.isFn K (.ref f) = true) (h : wpAny (model prog w) A.in1 (call (.ref f) [.ref x, b]) (fun v s' => ∃ q, v = .bool q ∧ Q (.bool (!q)) s') E s) : wpAny (model prog w) A (richCompare .NotEq (.ref x) b) Q E s := by
  have one : wpAny (model prog w) A (tryCompare (.ref x) "__ne__" b) (fun r s' => ∃ v, r = some v ∧ Q v s') E s := by
    unfold tryCompare
    refine wpAny_bind (bound_b F.cmp_object.ne Xk I hn (ne_obj (Nat.lt_of_succ_lt hu) Xk I hp he hf (wpAny_mono h (fun v s' ⟨q, e, hq⟩ => ?_) fun _ _ e => e)))
    exact ⟨q, e, wpAny_pure ⟨_, rfl, hq⟩⟩
  unfold richCompare
  simp only [oneThing_ref]
  refine wpAny_holding (wpAny_bind (wpAny_cRoomFor (Nat.lt_of_succ_lt (Nat.lt_of_succ_lt hu)) ?_))
  rw [cmpInfo_NotEq]
  refine wpAny_bind (I.type.here (wpAny_bind (hb.here ?_)))
  rw [if_neg (by simp)]
  refine wpAny_bind (wpAny_pure ?_)
  simp only [Bool.false_eq_true, if_false]
  refine wpAny_bind (wpAny_mono one (fun r s' ⟨v, e, hq⟩ => ?_) fun _ _ e => e)
  subst e
  exact wpAny_pure hq
end
section
variable {X : Cx} {δ : List Sl} {a b : Expr} {pos : Pos} {P : Program} {w : World} {K : PySem.W.Frag} {mg : Str → Option Value} {base : Heap} {k n : Nat} {N : List Str} {sc : Scope} {C g : Addr} {S : Sd} {sp : Sp} {da db : Dt}
def rOwnN (C : Addr) (sp : Sp) : R2 := fun x y H Q => ∃ a dx vs b dy ws, x = V.ref a ∧ y = V.ref b ∧ SlX.Slt H a C dx vs ∧ SlX.Slt H b C dy ws ∧ sp [x, y] H (fun v H2 => ∃ q, v = .bl q ∧ Q (.bl (!q)) H2) E0
theorem op_ownN (sc1 : SlX.SCls X.K C) (hn : PySem.W.findIn X.K (.ref C) "__ne__" = some (some (.builtin "object.__ne__"))) (hs : PySem.W.findIn X.K (.ref C) "__eq__" = some (some (.ref g))) (hf : PySem.W.isFn X.K (.ref g) = true) (F : FnR X.prog X.w X.K X.mg X.base CX0 n g sp) (hr : Room (n + 1) X.A) : OpR X (compareOp .NotEq) (rOwnN C sp) := by
  intro pins s σ H x y v u Q I rx ry hyp
  rcases hyp with ⟨a, dx, vs, b, dy, ws, rfl, rfl, ha, hb, q⟩
  cases rx
  cases ry
  obtain ⟨sl, od, _, J, _⟩ := SlX.slt_inst I ha
  obtain ⟨sl', od', _, J', _⟩ := SlX.slt_inst I hb
  have hu : X.A.units + 2 < cLine := by have := hr.units; omega
  show wpAny _ _ (richCompare .NotEq (.ref a) (.ref b)) _ _ s
  refine ne_K hu I.kIn J J'.type sc1.po hn hs hf (wpAny_call ?_)
  refine codeAny_mono (F X.A.in1 X.stack s H [.ref a, .ref b] [.ref a, .ref b] _ E0 hr.in1 I.env0.in1 (.cons rfl (.cons rfl .nil)) q) fun r s' hq => ?_
  cases r with
  | error e => exact (show False from hq).elim
  | ok fl =>
    cases fl with
    | ret u =>
      obtain ⟨z, H2, I2, rz, t, ez, qz⟩ := I.after hq
      subst ez
      obtain rfl : u = .bool t := rz
      exact ⟨t, rfl, .bl (!t), H2, I2, rfl, qz⟩
    | next => exact (show False from hq).elim
    | brk => exact (show False from hq).elim
    | cont => exact (show False from hq).elim
theorem od_neO {q : Bool} (ia : InsD X.K C da) (ib : InsD X.K C db) (h : S [da, db] (is_ (.bl q))) : OpD X (rOwnN C (spD X.K S)) da db (is_ (.bl (!q))) := fun M H vx vy dom rx ry => by
  obtain ⟨a, dx, vs, ex, h1⟩ := ia _ _ rx
  obtain ⟨b, dy, ws, ey, h2⟩ := ib _ _ ry
  refine ⟨a, dx, vs, b, dy, ws, ex, ey, SlX_keep hid_ex h1, SlX_keep hid_ex h2, M, [da, db], _, dom, reps_mk rx (reps_mk ry (reps_nil.mpr rfl)), h, fun d v H2 rd e2 r => ?_⟩
  cases rd
  exact ⟨q, rep_bl.mp r, e2, _, rfl, rb _⟩
theorem v_neO {q : Bool} (cg : Cg P w K mg base k N sc X) (sc1 : SlX.SCls K C) (hn : PySem.W.findIn K (.ref C) "__ne__" = some (some (.builtin "object.__ne__"))) (hs : PySem.W.findIn K (.ref C) "__eq__" = some (some (.ref g))) (hf : PySem.W.isFn K (.ref g) = true) (F : FnA P w K mg base n g S) (hle : n + 1 ≤ k)
    (ia : InsD K C da) (ib : InsD K C db) (ha : EvD X δ a da) (hb : EvD X δ b db) (h : S [da, db] (is_ (.bl q))) : EvD X δ (.Compare a [.NotEq] [b] pos) (.bl (!q)) := by
  obtain ⟨rfl, rfl, rfl, rfl, rfl, rfl, rfl, nd, room, calm, nox⟩ := cg
  exact v_cmp (op_ownN sc1 hn hs hf F (room.mono hle)) ha hb (d2 (od_neO ia ib h)) (nomark _)
theorem t_neO {q : Bool} (cg : Cg P w K mg base k N sc X) (sc1 : SlX.SCls K C) (hn : PySem.W.findIn K (.ref C) "__ne__" = some (some (.builtin "object.__ne__"))) (hs : PySem.W.findIn K (.ref C) "__eq__" = some (some (.ref g))) (hf : PySem.W.isFn K (.ref g) = true) (F : FnA P w K mg base n g S) (hle : n + 1 ≤ k)
    (ia : InsD K C da) (ib : InsD K C db) (ha : EvD X δ a da) (hb : EvD X δ b db) (h : S [da, db] (is_ (.bl q))) : EvT X δ (.Compare a [.NotEq] [b] pos) (!q) := by
  obtain ⟨rfl, rfl, rfl, rfl, rfl, rfl, rfl, nd, room, calm, nox⟩ := cg
  exact t_cmp (op_ownN sc1 hn hs hf F (room.mono hle)) ha hb (d2 (od_neO ia ib h)) (nomark _)

/-! ### a global's tuple -/
theorem v_gtup {x : Str} {T : Addr} {ns : List Int} (cg : Cg P w K mg base k N sc X) (hm : mg x = some (.ref T)) (hT : ∀ H, SqT K H T (ns.map V.int)) (hg : Gl X x := by first | rfl | exact Cg.gl (by assumption) rfl) (hd : (x == ("__debug__" : Str)) = false := by decide) : EvD X δ (.Name x pos) (.tup (rowD ns)) := by
  obtain ⟨rfl, rfl, rfl, rfl, rfl, rfl, rfl, nd, room, calm, nox⟩ := cg
  exact v_glob hg hm (v := .ref T) rfl (fun H => rep_tup.mpr ⟨T, _, rfl, hT H, reps_int.mpr rfl⟩) hd
end
end DL

namespace DL
open PySem PySem.Spec PyProof.Rows L2

/-! ### the built-in type of data -/
def tyD : Dt → Option String
  | .non => some "NoneType"
  | .bl _ => some "bool"
  | .int _ => some "int"
  | .str _ => some "str"
  | .tup _ => some "tuple"
  | .lst _ => some "list"
  | _ => none
theorem ty_of {K : PySem.W.Frag} {T : String} : ∀ {d : Dt} {v : V} {H : Hp}, tyD d = some T → rep K d v H → TyX K H v (.type T)
  | .non, v, H, e, r => by
    cases e
    rw [rep_non.mp r]
    exact .base .non
  | .bl b, v, H, e, r => by
    cases e
    rw [rep_bl.mp r]
    exact .base (.bl b)
  | .int i, v, H, e, r => by
    cases e
    rw [rep_int.mp r]
    exact .base (.int i)
  | .str s, v, H, e, r => by
    cases e
    rw [rep_str.mp r]
    exact .base (.str s)
  | .tup ds, v, H, e, r => by
    cases e
    obtain ⟨a, xs, rfl, h1, h2⟩ := rep_tup.mp r
    rcases h1 with (h1 | ⟨o, h1⟩) | ⟨o, its, n, h1, h2, _⟩
    · exact .base (.tup h1)
    · exact .fTuple h1
    · exact .kTuple h1 h2
  | .lst ds, v, H, e, r => by
    cases e
    obtain ⟨a, xs, rfl, h1, h2⟩ := rep_lst.mp r
    exact .base (.lst h1)
section
variable {X : Cx} {δ : List Sl} {a b c e : Expr} {es : List Expr} {pos p p2 : Pos} {da d : Dt} {x : Str} {s t : Str}
variable {P : Program} {w : World} {K : PySem.W.Frag} {mg : Str → Option Value} {base : Heap} {k n : Nat} {N : List Str} {sc : Scope} {C g : Addr} {S : Sd}
/-- isinstance(a, a built-in's name) -/
theorem v_isT {T U : String} {q : Bool} (kb : PySem.W.kitOne X.K (.type T) (.type U) = some q) (hT : tyD da = some T) (hv : bootBuiltins x = some (.type U)) (ha : EvD X δ a da) (hx : X.mg x = none := by first | assumption | exact Cg.bf (by assumption) (by assumption) rfl) (hm : X.mg "isinstance" = none := by first | assumption | exact Cg.bf (by assumption) (by assumption) rfl)
    (hg : Gl X "isinstance" := by first | rfl | exact Cg.gl (by assumption) rfl) (hgx : Gl X x := by first | rfl | exact Cg.gl (by assumption) rfl) (hn : x ≠ "__name__" := by decide) (hd : (x == ("__debug__" : Str)) = false := by decide)
    (he : starEach [a, (.Name x p2)] X.env = (false, eval a X.env) :: starEach [(.Name x p2)] X.env := by rfl) (he2 : starEach [(.Name x p2)] X.env = (false, eval (.Name x p2) X.env) :: starEach [] X.env := by rfl) (hpl : (backTo pos (starEach [(.Name x p2)] X.env)).any (·.1) = false := by rfl) :
    EvD X δ (.Call (.Name "isinstance" p) [a, .Name x p2] [] pos) (.bl q) :=
  v_isiB (.ty U) kb (fun v H r => ty_of hT r) ha (v_blt hx hv (v := .ty U) rfl hgx hn hd) hm hg he he2 hpl
/-- isinstance(a, an own class), a of a built-in type -/
theorem v_isTO {T : String} {q : Bool} {T2 : Addr} (kb : PySem.W.kitOne X.K (.type T) (.ref T2) = some q) (hT : tyD da = some T) (ha : EvD X δ a da) (hb : EvD X δ b (.val (.ref T2))) (hm : X.mg "isinstance" = none := by first | assumption | exact Cg.bf (by assumption) (by assumption) rfl)
    (hg : Gl X "isinstance" := by first | rfl | exact Cg.gl (by assumption) rfl)
    (he : starEach [a, b] X.env = (false, eval a X.env) :: starEach [b] X.env := by rfl) (he2 : starEach [b] X.env = (false, eval b X.env) :: starEach [] X.env := by rfl) (hpl : (backTo pos (starEach [b] X.env)).any (·.1) = false := by rfl) :
    EvD X δ (.Call (.Name "isinstance" p) [a, b] [] pos) (.bl q) :=
  v_isiB (.own T2) kb (fun v H r => ty_of hT r) ha hb hm hg he he2 hpl

/-! ### f-strings -/
abbrev Tx1 (A : Str → Prop) : Dt → Prop := fun d => ∃ s, d = .str s ∧ A s
theorem v_fmtS {A : Str → Prop} (hl : ∀ s, A s → s.length ≤ 1000000) (he : EvE X δ e (Tx1 A)) : EvE X δ (.FormattedValue e (-1) none pos) (Tx1 A) := fun M0 M H0 σ H g =>
  tev_of (pe_fmt pe_tev) (tev_mono (he M0 M H0 σ H g) fun v H1 ⟨e1, d, ⟨s, ed, hs⟩, r⟩ => by
    subst ed
    exact .inl ⟨s, rep_str.mp r, Nat.le_trans (hl s hs) (by decide), e1, _, ⟨s, rfl, hs⟩, rep_str.mpr rfl⟩)
theorem v_fmtI {i : Int} (hl : i.natAbs.log2 < 1920) (he : EvD X δ e (.int i)) : EvE X δ (.FormattedValue e (-1) none pos) (Tx1 fun s => s = toString i) := fun M0 M H0 σ H g =>
  tev_of (pe_fmt pe_tev) (tev_mono (he M0 M H0 σ H g) fun v H1 ⟨e1, d, ed, r⟩ => by
    cases ed
    exact .inr ⟨i, rep_int.mp r, hl, e1, _, ⟨_, rfl, rfl⟩, rep_str.mpr rfl⟩)
/-- an own instance, by its __str__ -/
theorem pe_fmtO {te : TE} {sp : Sp} (si : SlX.SIsi X.K C) (hfm : PySem.W.findIn X.K (.ref C) "__format__" = some (some (.builtin "object.__format__"))) (hs : Meth X.K C "__str__" g) (F : FnR X.prog X.w X.K X.mg X.base CX0 n g sp) (hr : Room (n + 1) X.A) (he : PE X e te) :
    PE X (.FormattedValue e (-1) none pos) (fun σ H Q => te σ H fun x H1 => ∃ a dx vs, x = V.ref a ∧ SlX.Slt H1 a C dx vs ∧ sp [x] H1 (fun v H2 => ∃ s, v = .str s ∧ Q (.str s) H2) E0) := ⟨fun pins s σ H Q I h => by
  refine wpAny_FormattedValue_plain (thn (he.run pins s σ H _ I h) fun v s1 ⟨x, H1, I1, rx, a, dx, vs, ex, hsl, q⟩ => ?_)
  subst ex
  cases rx
  obtain ⟨sl, od, _, J, _⟩ := SlX.slt_inst I1 hsl
  have hu : X.A.in1.units < cLine := by
    have := hr.in1.units
    omega
  have I2 : Inv X pins σ H1 { s1 with toks := s1.toks + 1 } := I1.tok _
  refine PySem.W.kfo_fieldS hu I1.kIn J hfm si.cm hs.at_ hs.fn (wpAny_call ?_)
  refine codeAny_mono (F X.A.in1 X.stack { s1 with toks := s1.toks + 1 } H1 [.ref a] [.ref a] _ E0 hr.in1 I2.env0.in1 (.cons rfl .nil) q) fun r s' hq => ?_
  cases r with
  | error e => exact (show False from hq).elim
  | ok fl =>
    cases fl with
    | ret u =>
      obtain ⟨z, H2, I3, rz, t, ez, qz⟩ := I2.after hq
      subst ez
      obtain ⟨tk, rfl⟩ := rz
      exact ⟨.str t, H2, I3, ⟨tk, rfl⟩, qz⟩
    | next => exact (show False from hq).elim
    | brk => exact (show False from hq).elim
    | cont => exact (show False from hq).elim⟩
theorem v_fmtO {A : Str → Prop} (cg : Cg P w K mg base k N sc X) (si : SlX.SIsi K C) (hfm : PySem.W.findIn K (.ref C) "__format__" = some (some (.builtin "object.__format__"))) (hs : Meth K C "__str__" g) (F : FnA P w K mg base n g S) (hle : n + 1 ≤ k) (ia : InsD K C da) (ha : EvD X δ e da) (h : S [da] (Tx1 A)) :
    EvE X δ (.FormattedValue e (-1) none pos) (Tx1 A) := fun M0 M H0 σ H G => by
  obtain ⟨rfl, rfl, rfl, rfl, rfl, rfl, rfl, nd, room, calm, nox⟩ := cg
  refine tev_of (pe_fmtO si hfm hs F (room.mono hle) pe_tev) (tev_mono (ha M0 M H0 σ H G) fun v H1 ⟨e1, d, ed, r⟩ => ?_)
  cases ed
  obtain ⟨a, dx, vs, ex, h1⟩ := ia _ _ r
  subst ex
  refine ⟨a, dx, vs, rfl, SlX_keep hid_ex h1, M, [da], _, (G.grow e1).dom, reps_mk r (reps_nil.mpr rfl), h, fun d2 v2 H2 ⟨s, ed, hs⟩ e2 r2 => ?_⟩
  subst ed
  exact ⟨s, rep_str.mp r2, e1.trans e2, _, ⟨s, rfl, hs⟩, rep_str.mpr rfl⟩
theorem app_assoc (a b c : Str) : (a ++ b) ++ c = a ++ (b ++ c) := by
  show (⟨(a.cps ++ b.cps) ++ c.cps⟩ : Str) = ⟨a.cps ++ (b.cps ++ c.cps)⟩
  rw [Array.append_assoc]
theorem app_len (a b : Str) : (a ++ b).length = a.length + b.length := by
  show (a.cps ++ b.cps).size = _
  rw [Array.size_append]
  rfl
/-- the parts, the whole text, its length at most L -/
def EvJ (X : Cx) (δ : List Sl) (es : List Expr) (A : Str → Prop) (L : Nat) : Prop := ∀ M0 M H0 σ H (acc : Str), Sg X.K M0 M H0 δ σ H → acc.length + L ≤ 1000000 → tJs (es.map (tev X)) acc σ H fun out H1 => Ex H H1 ∧ ∃ s, A s ∧ s.length ≤ L ∧ out = acc ++ s
theorem pj_tev : ∀ es : List Expr, PJ X es (es.map (tev X))
  | [] => .nil
  | e :: es => .cons pe_tev (pj_tev es)
theorem tJs_mono : ∀ (es : List Expr) {acc : Str} {σ : L2.St} {H : Hp} {Q Q' : Str → Hp → Prop}, (∀ s H, Q s H → Q' s H) → tJs (es.map (tev X)) acc σ H Q → tJs (es.map (tev X)) acc σ H Q'
  | [], acc, σ, H, Q, Q', k, h => k _ _ h
  | e :: es, acc, σ, H, Q, Q', k, h => tev_mono (show tev X e σ H _ from h) fun x H1 ⟨y, ey, hy, hr⟩ => ⟨y, ey, hy, tJs_mono es k hr⟩
theorem j_nil : EvJ X δ [] (fun s => s = Str.empty) 0 := fun M0 M H0 σ H acc g hl => ⟨Ex.rfl, Str.empty, rfl, Nat.le_refl _, by
  show acc = ⟨acc.cps ++ #[]⟩
  simp⟩
theorem j_cons {A B : Str → Prop} {l L : Nat} (he : EvE X δ e (Tx1 A)) (hA : ∀ s, A s → s.length ≤ l) (hr : EvJ X δ es B L) : EvJ X δ (e :: es) (fun s => ∃ a b, s = a ++ b ∧ A a ∧ B b) (l + L) := fun M0 M H0 σ H acc g hl =>
  show tev X e σ H _ from tev_mono (he M0 M H0 σ H g) fun v H1 ⟨e1, d, ⟨s, ed, hs⟩, r⟩ => by
    subst ed
    have h1 := hA s hs
    have hz : (acc ++ s).length ≤ 1000000 := by
      rw [app_len]
      omega
    refine ⟨s, rep_str.mp r, Nat.le_trans hz (by decide), tJs_mono es (fun out H2 ⟨e2, t, ht, hlt, eo⟩ => ?_) (hr M0 M H0 σ H1 (acc ++ s) (g.grow e1) (by rw [app_len]; omega))⟩
    refine ⟨e1.trans e2, s ++ t, ⟨s, t, rfl, hs, ht⟩, by rw [app_len]; omega, by rw [eo, app_assoc]⟩
theorem v_joined {A : Str → Prop} {L : Nat} {v1 v2 : Expr} {rest : List Expr} (h : EvJ X δ (v1 :: v2 :: rest) A L) (hL : L ≤ 1000000) : EvE X δ (.JoinedStr (v1 :: v2 :: rest) pos) (Tx1 fun s => A s ∧ s.length ≤ L) := fun M0 M H0 σ H g =>
  tev_of (pe_joined (pj_tev _)) (tJs_mono (v1 :: v2 :: rest) (fun out H1 ⟨e1, s, hs, hl, eo⟩ => ⟨e1, _, ⟨s, rfl, hs, hl⟩, rep_str.mpr (by
    rw [eo]
    congr 1
    show (⟨#[] ++ s.cps⟩ : Str) = s
    simp)⟩) (h M0 M H0 σ H Str.empty g (by show 0 + L ≤ 1000000; omega)))
theorem v_joined1 {A : Str → Prop} (h : EvE X δ e (Tx1 A)) : EvE X δ (.JoinedStr [e] pos) (Tx1 A) := fun M0 M H0 σ H g => tev_of (pe_joined1 pe_tev) (h M0 M H0 σ H g)
/-- a constant part -/
theorem v_strT {i : Nat} : EvE X δ (.Constant (.str s) i pos) (Tx1 fun z => z = s) := v_str.mono fun d e => ⟨s, e, rfl⟩

/-! ### sep.join(a list of texts) -/
theorem reps_str {K : PySem.W.Frag} {H : Hp} : ∀ {ys : List Str} {xs : List V}, reps K (ys.map Dt.str) xs H ↔ xs = ys.map V.str
  | [], xs => by
    show reps K [] xs H ↔ _
    rw [reps_nil]
    rfl
  | y :: ys, xs => by
    show reps K (.str y :: ys.map Dt.str) xs H ↔ _
    rw [reps_cons]
    constructor
    · rintro ⟨x, zs, rfl, h1, h2⟩
      rw [rep_str.mp h1, reps_str.mp h2]
      rfl
    · intro h
      exact ⟨.str y, ys.map V.str, h, rep_str.mpr rfl, reps_str.mpr rfl⟩
theorem v_join {apos : Pos} {sep : Str} {ys : List Str} (hz : (ys.map (·.length)).sum + ys.length * sep.length ≤ 1000000) (ha : EvD X δ a (.str sep)) (hb : EvD X δ b (.lst (ys.map Dt.str))) (hs : starEach [b] X.env = [(false, eval b X.env)] := by rfl)
    (hbase : attributeBase a "join" X.env (eval a X.env) = eval a X.env := by rfl) (hline : (apos.endLine == pos.line) = true := by rfl) : EvD X δ (.Call (.Attribute a "join" apos) [b] [] pos) (.str (Txt.join sep ys)) := fun M0 M H0 σ H g =>
  tev_of (pe_join pe_tev pe_tev hs hbase hline) (tev_mono (ha M0 M H0 σ H g) fun v H1 ⟨e1, d, ed, r⟩ => by
    cases ed
    refine ⟨⟨sep, rep_str.mp r⟩, tev_mono (hb M0 M H0 σ H1 (g.grow e1)) fun u H2 ⟨e2, d, ed, r2⟩ => ?_⟩
    cases ed
    obtain ⟨l, xs, rfl, h1, h2⟩ := rep_lst.mp r2
    rw [reps_str.mp h2] at h1
    exact ⟨sep, l, ys, rep_str.mp r, rfl, .inl (SqL.of (hid_ex _ _ h1)), Nat.le_trans hz (by decide), e1.trans e2, _, rfl, rep_str.mpr rfl⟩)
end
end DL

namespace DL
open PySem PySem.Spec PyProof.Rows L2
theorem propB_ok {K : PySem.W.Frag} {C : Addr} {m : Str} (h : propB K C m = true) : PropOf K C m (He.ma K C m) (gAd K C m) := by
  obtain ⟨c1, h⟩ := He.ba h
  obtain ⟨c2, h⟩ := He.ba h
  obtain ⟨c3, c4⟩ := He.ba h
  refine ⟨He.eqO_ok c1, He.eqO_ok c2, of_decide_eq_true c3, ?_⟩
  cases e : PySem.W.recIn K (He.ma K C m) "property" with
  | none =>
    rw [e] at c4
    cases c4
  | some l =>
    rw [e] at c4
    cases l with
    | nil => cases c4
    | cons v r =>
      cases v with
      | ref g => exact ⟨r, by rw [of_decide_eq_true c4]⟩
      | _ => cases c4
/-- the text as it stands behind the top -/
structure Tx (K : PySem.W.Frag) (mg : Str → Option Value) : Prop where
  at_ : ∃ h : Heap, K.In h ∧ h.Ns mainGlobals mg
  fa : ∀ l ∈ FAs, ∀ f ∈ l, f K = true
  df : ∀ l ∈ DFs, ∀ d ∈ l, d.ok K = true ∧ fnX K (d.ad K) = d.val
section
variable {K : PySem.W.Frag} {mg : Str → Option Value}
theorem Tx.fact (T : Tx K mg) (i j : Nat) {l : List (PySem.W.Frag → Bool)} {f : PySem.W.Frag → Bool} (h1 : FAs[i]? = some l) (h2 : l[j]? = some f) : f K = true := T.fa l (List.mem_of_getElem? h1) f (List.mem_of_getElem? h2)
theorem Tx.def_ (T : Tx K mg) (i j : Nat) {l : List DX} {d : DX} (h1 : DFs[i]? = some l) (h2 : l[j]? = some d) : FnX K d.name d.qual d.st (d.ad K) := let z := T.df l (List.mem_of_getElem? h1) d (List.mem_of_getElem? h2); DX.fn z.2 z.1
theorem fr_len (T : Tx K mg) : mg "len" = none := by
  have h := T.fact 0 0 (l := FA0) (f := (He.Fa.free "len").ok) rfl rfl
  exact let ⟨_, X, G⟩ := T.at_; He.free_ok X G h
theorem fr_range (T : Tx K mg) : mg "range" = none := by
  have h := T.fact 0 1 (l := FA0) (f := (He.Fa.free "range").ok) rfl rfl
  exact let ⟨_, X, G⟩ := T.at_; He.free_ok X G h
theorem fr_tuple (T : Tx K mg) : mg "tuple" = none := by
  have h := T.fact 0 2 (l := FA0) (f := (He.Fa.free "tuple").ok) rfl rfl
  exact let ⟨_, X, G⟩ := T.at_; He.free_ok X G h
theorem fr_list (T : Tx K mg) : mg "list" = none := by
  have h := T.fact 0 3 (l := FA0) (f := (He.Fa.free "list").ok) rfl rfl
  exact let ⟨_, X, G⟩ := T.at_; He.free_ok X G h
theorem fr_int (T : Tx K mg) : mg "int" = none := by
  have h := T.fact 0 4 (l := FA0) (f := (He.Fa.free "int").ok) rfl rfl
  exact let ⟨_, X, G⟩ := T.at_; He.free_ok X G h
theorem fr_str (T : Tx K mg) : mg "str" = none := by
  have h := T.fact 0 5 (l := FA0) (f := (He.Fa.free "str").ok) rfl rfl
  exact let ⟨_, X, G⟩ := T.at_; He.free_ok X G h
theorem fr_max (T : Tx K mg) : mg "max" = none := by
  have h := T.fact 0 6 (l := FA0) (f := (He.Fa.free "max").ok) rfl rfl
  exact let ⟨_, X, G⟩ := T.at_; He.free_ok X G h
theorem fr_min (T : Tx K mg) : mg "min" = none := by
  have h := T.fact 0 7 (l := FA0) (f := (He.Fa.free "min").ok) rfl rfl
  exact let ⟨_, X, G⟩ := T.at_; He.free_ok X G h
theorem fr_abs (T : Tx K mg) : mg "abs" = none := by
  have h := T.fact 0 8 (l := FA0) (f := (He.Fa.free "abs").ok) rfl rfl
  exact let ⟨_, X, G⟩ := T.at_; He.free_ok X G h
theorem fr_sum (T : Tx K mg) : mg "sum" = none := by
  have h := T.fact 0 9 (l := FA0) (f := (He.Fa.free "sum").ok) rfl rfl
  exact let ⟨_, X, G⟩ := T.at_; He.free_ok X G h
theorem fr_all (T : Tx K mg) : mg "all" = none := by
  have h := T.fact 0 10 (l := FA0) (f := (He.Fa.free "all").ok) rfl rfl
  exact let ⟨_, X, G⟩ := T.at_; He.free_ok X G h
theorem fr_any (T : Tx K mg) : mg "any" = none := by
  have h := T.fact 0 11 (l := FA0) (f := (He.Fa.free "any").ok) rfl rfl
  exact let ⟨_, X, G⟩ := T.at_; He.free_ok X G h
theorem fr_isinstance (T : Tx K mg) : mg "isinstance" = none := by
  have h := T.fact 0 12 (l := FA0) (f := (He.Fa.free "isinstance").ok) rfl rfl
  exact let ⟨_, X, G⟩ := T.at_; He.free_ok X G h
theorem fr_enumerate (T : Tx K mg) : mg "enumerate" = none := by
  have h := T.fact 0 13 (l := FA0) (f := (He.Fa.free "enumerate").ok) rfl rfl
  exact let ⟨_, X, G⟩ := T.at_; He.free_ok X G h
theorem fr_zip (T : Tx K mg) : mg "zip" = none := by
  have h := T.fact 0 14 (l := FA0) (f := (He.Fa.free "zip").ok) rfl rfl
  exact let ⟨_, X, G⟩ := T.at_; He.free_ok X G h
theorem fr_repr (T : Tx K mg) : mg "repr" = none := by
  have h := T.fact 0 15 (l := FA0) (f := (He.Fa.free "repr").ok) rfl rfl
  exact let ⟨_, X, G⟩ := T.at_; He.free_ok X G h
theorem fr_bool (T : Tx K mg) : mg "bool" = none := by
  have h := T.fact 0 16 (l := FA0) (f := (He.Fa.free "bool").ok) rfl rfl
  exact let ⟨_, X, G⟩ := T.at_; He.free_ok X G h
theorem fr_ValueError (T : Tx K mg) : mg "ValueError" = none := by
  have h := T.fact 0 17 (l := FA0) (f := (He.Fa.free "ValueError").ok) rfl rfl
  exact let ⟨_, X, G⟩ := T.at_; He.free_ok X G h
theorem g_is_integer (T : Tx K mg) : mg "is_integer" = some (.ref (He.ga K "is_integer")) := by
  have h := T.fact 0 18 (l := FA0) (f := (He.Fa.glo "is_integer").ok) rfl rfl
  exact let ⟨_, X, G⟩ := T.at_; He.glo_ok X G h
theorem g_is_prime (T : Tx K mg) : mg "is_prime" = some (.ref (He.ga K "is_prime")) := by
  have h := T.fact 0 19 (l := FA0) (f := (He.Fa.glo "is_prime").ok) rfl rfl
  exact let ⟨_, X, G⟩ := T.at_; He.glo_ok X G h
theorem g_require_prime (T : Tx K mg) : mg "require_prime" = some (.ref (He.ga K "require_prime")) := by
  have h := T.fact 0 20 (l := FA0) (f := (He.Fa.glo "require_prime").ok) rfl rfl
  exact let ⟨_, X, G⟩ := T.at_; He.glo_ok X G h
theorem g_require_count (T : Tx K mg) : mg "require_count" = some (.ref (He.ga K "require_count")) := by
  have h := T.fact 0 21 (l := FA0) (f := (He.Fa.glo "require_count").ok) rfl rfl
  exact let ⟨_, X, G⟩ := T.at_; He.glo_ok X G h
theorem g_is_residue_of (T : Tx K mg) : mg "is_residue_of" = some (.ref (He.ga K "is_residue_of")) := by
  have h := T.fact 0 22 (l := FA0) (f := (He.Fa.glo "is_residue_of").ok) rfl rfl
  exact let ⟨_, X, G⟩ := T.at_; He.glo_ok X G h
theorem g_inverse_of (T : Tx K mg) : mg "inverse_of" = some (.ref (He.ga K "inverse_of")) := by
  have h := T.fact 0 23 (l := FA0) (f := (He.Fa.glo "inverse_of").ok) rfl rfl
  exact let ⟨_, X, G⟩ := T.at_; He.glo_ok X G h
theorem g_residue_inverse (T : Tx K mg) : mg "residue_inverse" = some (.ref (He.ga K "residue_inverse")) := by
  have h := T.fact 0 24 (l := FA0) (f := (He.Fa.glo "residue_inverse").ok) rfl rfl
  exact let ⟨_, X, G⟩ := T.at_; He.glo_ok X G h
theorem g_poly_row (T : Tx K mg) : mg "poly_row" = some (.ref (He.ga K "poly_row")) := by
  have h := T.fact 1 0 (l := FA1) (f := (He.Fa.glo "poly_row").ok) rfl rfl
  exact let ⟨_, X, G⟩ := T.at_; He.glo_ok X G h
theorem g_made (T : Tx K mg) : mg "made" = some (.ref (He.ga K "made")) := by
  have h := T.fact 1 1 (l := FA1) (f := (He.Fa.glo "made").ok) rfl rfl
  exact let ⟨_, X, G⟩ := T.at_; He.glo_ok X G h
theorem g_are_poly_entries (T : Tx K mg) : mg "are_poly_entries" = some (.ref (He.ga K "are_poly_entries")) := by
  have h := T.fact 1 2 (l := FA1) (f := (He.Fa.glo "are_poly_entries").ok) rfl rfl
  exact let ⟨_, X, G⟩ := T.at_; He.glo_ok X G h
theorem g_poly_number (T : Tx K mg) : mg "poly_number" = some (.ref (He.ga K "poly_number")) := by
  have h := T.fact 1 3 (l := FA1) (f := (He.Fa.glo "poly_number").ok) rfl rfl
  exact let ⟨_, X, G⟩ := T.at_; He.glo_ok X G h
theorem g_poly_term (T : Tx K mg) : mg "poly_term" = some (.ref (He.ga K "poly_term")) := by
  have h := T.fact 1 4 (l := FA1) (f := (He.Fa.glo "poly_term").ok) rfl rfl
  exact let ⟨_, X, G⟩ := T.at_; He.glo_ok X G h
theorem g_poly_text (T : Tx K mg) : mg "poly_text" = some (.ref (He.ga K "poly_text")) := by
  have h := T.fact 1 5 (l := FA1) (f := (He.Fa.glo "poly_text").ok) rfl rfl
  exact let ⟨_, X, G⟩ := T.at_; He.glo_ok X G h
theorem g_poly_figures (T : Tx K mg) : mg "poly_figures" = some (.ref (He.ga K "poly_figures")) := by
  have h := T.fact 1 6 (l := FA1) (f := (He.Fa.glo "poly_figures").ok) rfl rfl
  exact let ⟨_, X, G⟩ := T.at_; He.glo_ok X G h
theorem g_poly_term_in (T : Tx K mg) : mg "poly_term_in" = some (.ref (He.ga K "poly_term_in")) := by
  have h := T.fact 1 7 (l := FA1) (f := (He.Fa.glo "poly_term_in").ok) rfl rfl
  exact let ⟨_, X, G⟩ := T.at_; He.glo_ok X G h
theorem g_poly_row_in (T : Tx K mg) : mg "poly_row_in" = some (.ref (He.ga K "poly_row_in")) := by
  have h := T.fact 1 8 (l := FA1) (f := (He.Fa.glo "poly_row_in").ok) rfl rfl
  exact let ⟨_, X, G⟩ := T.at_; He.glo_ok X G h
theorem g_poly_sum (T : Tx K mg) : mg "poly_sum" = some (.ref (He.ga K "poly_sum")) := by
  have h := T.fact 1 9 (l := FA1) (f := (He.Fa.glo "poly_sum").ok) rfl rfl
  exact let ⟨_, X, G⟩ := T.at_; He.glo_ok X G h
theorem g_poly_opposite (T : Tx K mg) : mg "poly_opposite" = some (.ref (He.ga K "poly_opposite")) := by
  have h := T.fact 1 10 (l := FA1) (f := (He.Fa.glo "poly_opposite").ok) rfl rfl
  exact let ⟨_, X, G⟩ := T.at_; He.glo_ok X G h
theorem g_poly_product (T : Tx K mg) : mg "poly_product" = some (.ref (He.ga K "poly_product")) := by
  have h := T.fact 1 11 (l := FA1) (f := (He.Fa.glo "poly_product").ok) rfl rfl
  exact let ⟨_, X, G⟩ := T.at_; He.glo_ok X G h
theorem g_poly_inverse (T : Tx K mg) : mg "poly_inverse" = some (.ref (He.ga K "poly_inverse")) := by
  have h := T.fact 1 12 (l := FA1) (f := (He.Fa.glo "poly_inverse").ok) rfl rfl
  exact let ⟨_, X, G⟩ := T.at_; He.glo_ok X G h
theorem g_poly_divided (T : Tx K mg) : mg "poly_divided" = some (.ref (He.ga K "poly_divided")) := by
  have h := T.fact 1 13 (l := FA1) (f := (He.Fa.glo "poly_divided").ok) rfl rfl
  exact let ⟨_, X, G⟩ := T.at_; He.glo_ok X G h
theorem g_require_poly (T : Tx K mg) : mg "require_poly" = some (.ref (He.ga K "require_poly")) := by
  have h := T.fact 1 14 (l := FA1) (f := (He.Fa.glo "require_poly").ok) rfl rfl
  exact let ⟨_, X, G⟩ := T.at_; He.glo_ok X G h
theorem g_require_same_prime (T : Tx K mg) : mg "require_same_prime" = some (.ref (He.ga K "require_same_prime")) := by
  have h := T.fact 1 15 (l := FA1) (f := (He.Fa.glo "require_same_prime").ok) rfl rfl
  exact let ⟨_, X, G⟩ := T.at_; He.glo_ok X G h
theorem g_require_divisor (T : Tx K mg) : mg "require_divisor" = some (.ref (He.ga K "require_divisor")) := by
  have h := T.fact 1 16 (l := FA1) (f := (He.Fa.glo "require_divisor").ok) rfl rfl
  exact let ⟨_, X, G⟩ := T.at_; He.glo_ok X G h
theorem g_monic_or_zero (T : Tx K mg) : mg "monic_or_zero" = some (.ref (He.ga K "monic_or_zero")) := by
  have h := T.fact 1 17 (l := FA1) (f := (He.Fa.glo "monic_or_zero").ok) rfl rfl
  exact let ⟨_, X, G⟩ := T.at_; He.glo_ok X G h
theorem g_common_of (T : Tx K mg) : mg "common_of" = some (.ref (He.ga K "common_of")) := by
  have h := T.fact 1 18 (l := FA1) (f := (He.Fa.glo "common_of").ok) rfl rfl
  exact let ⟨_, X, G⟩ := T.at_; He.glo_ok X G h
theorem g_is_square_free (T : Tx K mg) : mg "is_square_free" = some (.ref (He.ga K "is_square_free")) := by
  have h := T.fact 1 19 (l := FA1) (f := (He.Fa.glo "is_square_free").ok) rfl rfl
  exact let ⟨_, X, G⟩ := T.at_; He.glo_ok X G h
theorem g_square_roots (T : Tx K mg) : mg "square_roots" = some (.ref (He.ga K "square_roots")) := by
  have h := T.fact 1 20 (l := FA1) (f := (He.Fa.glo "square_roots").ok) rfl rfl
  exact let ⟨_, X, G⟩ := T.at_; He.glo_ok X G h
theorem g_kind_in (T : Tx K mg) : mg "kind_in" = some (.ref (He.ga K "kind_in")) := by
  have h := T.fact 1 21 (l := FA1) (f := (He.Fa.glo "kind_in").ok) rfl rfl
  exact let ⟨_, X, G⟩ := T.at_; He.glo_ok X G h
theorem g_rims_in (T : Tx K mg) : mg "rims_in" = some (.ref (He.ga K "rims_in")) := by
  have h := T.fact 1 22 (l := FA1) (f := (He.Fa.glo "rims_in").ok) rfl rfl
  exact let ⟨_, X, G⟩ := T.at_; He.glo_ok X G h
theorem g_points_in (T : Tx K mg) : mg "points_in" = some (.ref (He.ga K "points_in")) := by
  have h := T.fact 1 23 (l := FA1) (f := (He.Fa.glo "points_in").ok) rfl rfl
  exact let ⟨_, X, G⟩ := T.at_; He.glo_ok X G h
theorem g_require_curve (T : Tx K mg) : mg "require_curve" = some (.ref (He.ga K "require_curve")) := by
  have h := T.fact 1 24 (l := FA1) (f := (He.Fa.glo "require_curve").ok) rfl rfl
  exact let ⟨_, X, G⟩ := T.at_; He.glo_ok X G h
theorem g_residue_power (T : Tx K mg) : mg "residue_power" = some (.ref (He.ga K "residue_power")) := by
  have h := T.fact 2 0 (l := FA2) (f := (He.Fa.glo "residue_power").ok) rfl rfl
  exact let ⟨_, X, G⟩ := T.at_; He.glo_ok X G h
theorem g_shared_part (T : Tx K mg) : mg "shared_part" = some (.ref (He.ga K "shared_part")) := by
  have h := T.fact 2 1 (l := FA2) (f := (He.Fa.glo "shared_part").ok) rfl rfl
  exact let ⟨_, X, G⟩ := T.at_; He.glo_ok X G h
theorem g_least_terms (T : Tx K mg) : mg "least_terms" = some (.ref (He.ga K "least_terms")) := by
  have h := T.fact 2 2 (l := FA2) (f := (He.Fa.glo "least_terms").ok) rfl rfl
  exact let ⟨_, X, G⟩ := T.at_; He.glo_ok X G h
theorem g_lowered_pair (T : Tx K mg) : mg "lowered_pair" = some (.ref (He.ga K "lowered_pair")) := by
  have h := T.fact 2 3 (l := FA2) (f := (He.Fa.glo "lowered_pair").ok) rfl rfl
  exact let ⟨_, X, G⟩ := T.at_; He.glo_ok X G h
theorem g_told_function (T : Tx K mg) : mg "told_function" = some (.ref (He.ga K "told_function")) := by
  have h := T.fact 2 4 (l := FA2) (f := (He.Fa.glo "told_function").ok) rfl rfl
  exact let ⟨_, X, G⟩ := T.at_; He.glo_ok X G h
theorem g_require_one_curve (T : Tx K mg) : mg "require_one_curve" = some (.ref (He.ga K "require_one_curve")) := by
  have h := T.fact 2 5 (l := FA2) (f := (He.Fa.glo "require_one_curve").ok) rfl rfl
  exact let ⟨_, X, G⟩ := T.at_; He.glo_ok X G h
theorem g_require_two (T : Tx K mg) : mg "require_two" = some (.ref (He.ga K "require_two")) := by
  have h := T.fact 2 6 (l := FA2) (f := (He.Fa.glo "require_two").ok) rfl rfl
  exact let ⟨_, X, G⟩ := T.at_; He.glo_ok X G h
theorem g_require_within (T : Tx K mg) : mg "require_within" = some (.ref (He.ga K "require_within")) := by
  have h := T.fact 2 7 (l := FA2) (f := (He.Fa.glo "require_within").ok) rfl rfl
  exact let ⟨_, X, G⟩ := T.at_; He.glo_ok X G h
theorem g_root_in (T : Tx K mg) : mg "root_in" = some (.ref (He.ga K "root_in")) := by
  have h := T.fact 2 8 (l := FA2) (f := (He.Fa.glo "root_in").ok) rfl rfl
  exact let ⟨_, X, G⟩ := T.at_; He.glo_ok X G h
theorem g_ends_of (T : Tx K mg) : mg "ends_of" = some (.ref (He.ga K "ends_of")) := by
  have h := T.fact 2 9 (l := FA2) (f := (He.Fa.glo "ends_of").ok) rfl rfl
  exact let ⟨_, X, G⟩ := T.at_; He.glo_ok X G h
theorem g_function_of (T : Tx K mg) : mg "function_of" = some (.ref (He.ga K "function_of")) := by
  have h := T.fact 2 10 (l := FA2) (f := (He.Fa.glo "function_of").ok) rfl rfl
  exact let ⟨_, X, G⟩ := T.at_; He.glo_ok X G h
theorem g_scaled_pair (T : Tx K mg) : mg "scaled_pair" = some (.ref (He.ga K "scaled_pair")) := by
  have h := T.fact 2 11 (l := FA2) (f := (He.Fa.glo "scaled_pair").ok) rfl rfl
  exact let ⟨_, X, G⟩ := T.at_; He.glo_ok X G h
theorem g_unit_pair (T : Tx K mg) : mg "unit_pair" = some (.ref (He.ga K "unit_pair")) := by
  have h := T.fact 2 12 (l := FA2) (f := (He.Fa.glo "unit_pair").ok) rfl rfl
  exact let ⟨_, X, G⟩ := T.at_; He.glo_ok X G h
theorem g_length_of (T : Tx K mg) : mg "length_of" = some (.ref (He.ga K "length_of")) := by
  have h := T.fact 2 13 (l := FA2) (f := (He.Fa.glo "length_of").ok) rfl rfl
  exact let ⟨_, X, G⟩ := T.at_; He.glo_ok X G h
theorem g_least_unit (T : Tx K mg) : mg "least_unit" = some (.ref (He.ga K "least_unit")) := by
  have h := T.fact 2 14 (l := FA2) (f := (He.Fa.glo "least_unit").ok) rfl rfl
  exact let ⟨_, X, G⟩ := T.at_; He.glo_ok X G h
theorem g_product_of (T : Tx K mg) : mg "product_of" = some (.ref (He.ga K "product_of")) := by
  have h := T.fact 2 15 (l := FA2) (f := (He.Fa.glo "product_of").ok) rfl rfl
  exact let ⟨_, X, G⟩ := T.at_; He.glo_ok X G h
theorem g_unit_power (T : Tx K mg) : mg "unit_power" = some (.ref (He.ga K "unit_power")) := by
  have h := T.fact 2 16 (l := FA2) (f := (He.Fa.glo "unit_power").ok) rfl rfl
  exact let ⟨_, X, G⟩ := T.at_; He.glo_ok X G h
theorem g_norm_in (T : Tx K mg) : mg "norm_in" = some (.ref (He.ga K "norm_in")) := by
  have h := T.fact 2 17 (l := FA2) (f := (He.Fa.glo "norm_in").ok) rfl rfl
  exact let ⟨_, X, G⟩ := T.at_; He.glo_ok X G h
theorem g_is_unit_of (T : Tx K mg) : mg "is_unit_of" = some (.ref (He.ga K "is_unit_of")) := by
  have h := T.fact 2 18 (l := FA2) (f := (He.Fa.glo "is_unit_of").ok) rfl rfl
  exact let ⟨_, X, G⟩ := T.at_; He.glo_ok X G h
theorem g_is_unit (T : Tx K mg) : mg "is_unit" = some (.ref (He.ga K "is_unit")) := by
  have h := T.fact 2 19 (l := FA2) (f := (He.Fa.glo "is_unit").ok) rfl rfl
  exact let ⟨_, X, G⟩ := T.at_; He.glo_ok X G h
theorem g_unit_parts (T : Tx K mg) : mg "unit_parts" = some (.ref (He.ga K "unit_parts")) := by
  have h := T.fact 2 20 (l := FA2) (f := (He.Fa.glo "unit_parts").ok) rfl rfl
  exact let ⟨_, X, G⟩ := T.at_; He.glo_ok X G h
theorem g__law_dice (T : Tx K mg) : mg "_law_dice" = some (.ref (He.ga K "_law_dice")) := by
  have h := T.fact 2 21 (l := FA2) (f := (He.Fa.glo "_law_dice").ok) rfl rfl
  exact let ⟨_, X, G⟩ := T.at_; He.glo_ok X G h
theorem g__law_roll (T : Tx K mg) : mg "_law_roll" = some (.ref (He.ga K "_law_roll")) := by
  have h := T.fact 2 22 (l := FA2) (f := (He.Fa.glo "_law_roll").ok) rfl rfl
  exact let ⟨_, X, G⟩ := T.at_; He.glo_ok X G h
theorem g__law_pick (T : Tx K mg) : mg "_law_pick" = some (.ref (He.ga K "_law_pick")) := by
  have h := T.fact 2 23 (l := FA2) (f := (He.Fa.glo "_law_pick").ok) rfl rfl
  exact let ⟨_, X, G⟩ := T.at_; He.glo_ok X G h
theorem g__law_trim (T : Tx K mg) : mg "_law_trim" = some (.ref (He.ga K "_law_trim")) := by
  have h := T.fact 2 24 (l := FA2) (f := (He.Fa.glo "_law_trim").ok) rfl rfl
  exact let ⟨_, X, G⟩ := T.at_; He.glo_ok X G h
theorem g__law_plus (T : Tx K mg) : mg "_law_plus" = some (.ref (He.ga K "_law_plus")) := by
  have h := T.fact 3 0 (l := FA3) (f := (He.Fa.glo "_law_plus").ok) rfl rfl
  exact let ⟨_, X, G⟩ := T.at_; He.glo_ok X G h
theorem g__law_turned (T : Tx K mg) : mg "_law_turned" = some (.ref (He.ga K "_law_turned")) := by
  have h := T.fact 3 1 (l := FA3) (f := (He.Fa.glo "_law_turned").ok) rfl rfl
  exact let ⟨_, X, G⟩ := T.at_; He.glo_ok X G h
theorem g__law_less (T : Tx K mg) : mg "_law_less" = some (.ref (He.ga K "_law_less")) := by
  have h := T.fact 3 2 (l := FA3) (f := (He.Fa.glo "_law_less").ok) rfl rfl
  exact let ⟨_, X, G⟩ := T.at_; He.glo_ok X G h
theorem g__law_times (T : Tx K mg) : mg "_law_times" = some (.ref (He.ga K "_law_times")) := by
  have h := T.fact 3 3 (l := FA3) (f := (He.Fa.glo "_law_times").ok) rfl rfl
  exact let ⟨_, X, G⟩ := T.at_; He.glo_ok X G h
theorem g__law_inverse (T : Tx K mg) : mg "_law_inverse" = some (.ref (He.ga K "_law_inverse")) := by
  have h := T.fact 3 4 (l := FA3) (f := (He.Fa.glo "_law_inverse").ok) rfl rfl
  exact let ⟨_, X, G⟩ := T.at_; He.glo_ok X G h
theorem g__law_divided (T : Tx K mg) : mg "_law_divided" = some (.ref (He.ga K "_law_divided")) := by
  have h := T.fact 3 5 (l := FA3) (f := (He.Fa.glo "_law_divided").ok) rfl rfl
  exact let ⟨_, X, G⟩ := T.at_; He.glo_ok X G h
theorem g__law_rest (T : Tx K mg) : mg "_law_rest" = some (.ref (He.ga K "_law_rest")) := by
  have h := T.fact 3 6 (l := FA3) (f := (He.Fa.glo "_law_rest").ok) rfl rfl
  exact let ⟨_, X, G⟩ := T.at_; He.glo_ok X G h
theorem g__law_monic (T : Tx K mg) : mg "_law_monic" = some (.ref (He.ga K "_law_monic")) := by
  have h := T.fact 3 7 (l := FA3) (f := (He.Fa.glo "_law_monic").ok) rfl rfl
  exact let ⟨_, X, G⟩ := T.at_; He.glo_ok X G h
theorem g__law_common (T : Tx K mg) : mg "_law_common" = some (.ref (He.ga K "_law_common")) := by
  have h := T.fact 3 8 (l := FA3) (f := (He.Fa.glo "_law_common").ok) rfl rfl
  exact let ⟨_, X, G⟩ := T.at_; He.glo_ok X G h
theorem g__law_slope (T : Tx K mg) : mg "_law_slope" = some (.ref (He.ga K "_law_slope")) := by
  have h := T.fact 3 9 (l := FA3) (f := (He.Fa.glo "_law_slope").ok) rfl rfl
  exact let ⟨_, X, G⟩ := T.at_; He.glo_ok X G h
theorem g__law_is_free (T : Tx K mg) : mg "_law_is_free" = some (.ref (He.ga K "_law_is_free")) := by
  have h := T.fact 3 10 (l := FA3) (f := (He.Fa.glo "_law_is_free").ok) rfl rfl
  exact let ⟨_, X, G⟩ := T.at_; He.glo_ok X G h
theorem g__law_row_drawn (T : Tx K mg) : mg "_law_row_drawn" = some (.ref (He.ga K "_law_row_drawn")) := by
  have h := T.fact 3 11 (l := FA3) (f := (He.Fa.glo "_law_row_drawn").ok) rfl rfl
  exact let ⟨_, X, G⟩ := T.at_; He.glo_ok X G h
theorem g__law_free_drawn (T : Tx K mg) : mg "_law_free_drawn" = some (.ref (He.ga K "_law_free_drawn")) := by
  have h := T.fact 3 12 (l := FA3) (f := (He.Fa.glo "_law_free_drawn").ok) rfl rfl
  exact let ⟨_, X, G⟩ := T.at_; He.glo_ok X G h
theorem g__law_free_made (T : Tx K mg) : mg "_law_free_made" = some (.ref (He.ga K "_law_free_made")) := by
  have h := T.fact 3 13 (l := FA3) (f := (He.Fa.glo "_law_free_made").ok) rfl rfl
  exact let ⟨_, X, G⟩ := T.at_; He.glo_ok X G h
theorem g__law_sheet_of (T : Tx K mg) : mg "_law_sheet_of" = some (.ref (He.ga K "_law_sheet_of")) := by
  have h := T.fact 3 14 (l := FA3) (f := (He.Fa.glo "_law_sheet_of").ok) rfl rfl
  exact let ⟨_, X, G⟩ := T.at_; He.glo_ok X G h
theorem g__law_even_curve (T : Tx K mg) : mg "_law_even_curve" = some (.ref (He.ga K "_law_even_curve")) := by
  have h := T.fact 3 15 (l := FA3) (f := (He.Fa.glo "_law_even_curve").ok) rfl rfl
  exact let ⟨_, X, G⟩ := T.at_; He.glo_ok X G h
theorem g__law_root_row (T : Tx K mg) : mg "_law_root_row" = some (.ref (He.ga K "_law_root_row")) := by
  have h := T.fact 3 16 (l := FA3) (f := (He.Fa.glo "_law_root_row").ok) rfl rfl
  exact let ⟨_, X, G⟩ := T.at_; He.glo_ok X G h
theorem g__law_round_rows (T : Tx K mg) : mg "_law_round_rows" = some (.ref (He.ga K "_law_round_rows")) := by
  have h := T.fact 3 17 (l := FA3) (f := (He.Fa.glo "_law_round_rows").ok) rfl rfl
  exact let ⟨_, X, G⟩ := T.at_; He.glo_ok X G h
theorem g__law_norm_of (T : Tx K mg) : mg "_law_norm_of" = some (.ref (He.ga K "_law_norm_of")) := by
  have h := T.fact 3 18 (l := FA3) (f := (He.Fa.glo "_law_norm_of").ok) rfl rfl
  exact let ⟨_, X, G⟩ := T.at_; He.glo_ok X G h
theorem g__law_scaled (T : Tx K mg) : mg "_law_scaled" = some (.ref (He.ga K "_law_scaled")) := by
  have h := T.fact 3 19 (l := FA3) (f := (He.Fa.glo "_law_scaled").ok) rfl rfl
  exact let ⟨_, X, G⟩ := T.at_; He.glo_ok X G h
theorem g__law_product_pair (T : Tx K mg) : mg "_law_product_pair" = some (.ref (He.ga K "_law_product_pair")) := by
  have h := T.fact 3 20 (l := FA3) (f := (He.Fa.glo "_law_product_pair").ok) rfl rfl
  exact let ⟨_, X, G⟩ := T.at_; He.glo_ok X G h
theorem g__law_own_power (T : Tx K mg) : mg "_law_own_power" = some (.ref (He.ga K "_law_own_power")) := by
  have h := T.fact 3 21 (l := FA3) (f := (He.Fa.glo "_law_own_power").ok) rfl rfl
  exact let ⟨_, X, G⟩ := T.at_; He.glo_ok X G h
theorem g__law_plain (T : Tx K mg) : mg "_law_plain" = some (.ref (He.ga K "_law_plain")) := by
  have h := T.fact 3 22 (l := FA3) (f := (He.Fa.glo "_law_plain").ok) rfl rfl
  exact let ⟨_, X, G⟩ := T.at_; He.glo_ok X G h
theorem g__law_near (T : Tx K mg) : mg "_law_near" = some (.ref (He.ga K "_law_near")) := by
  have h := T.fact 3 23 (l := FA3) (f := (He.Fa.glo "_law_near").ok) rfl rfl
  exact let ⟨_, X, G⟩ := T.at_; He.glo_ok X G h
theorem g__law_is_own (T : Tx K mg) : mg "_law_is_own" = some (.ref (He.ga K "_law_is_own")) := by
  have h := T.fact 3 24 (l := FA3) (f := (He.Fa.glo "_law_is_own").ok) rfl rfl
  exact let ⟨_, X, G⟩ := T.at_; He.glo_ok X G h
theorem g__law_right (T : Tx K mg) : mg "_law_right" = some (.ref (He.ga K "_law_right")) := by
  have h := T.fact 4 0 (l := FA4) (f := (He.Fa.glo "_law_right").ok) rfl rfl
  exact let ⟨_, X, G⟩ := T.at_; He.glo_ok X G h
theorem g_is_whole_numbers (T : Tx K mg) : mg "is_whole_numbers" = some (.ref (He.ga K "is_whole_numbers")) := by
  have h := T.fact 4 1 (l := FA4) (f := (He.Fa.glo "is_whole_numbers").ok) rfl rfl
  exact let ⟨_, X, G⟩ := T.at_; He.glo_ok X G h
theorem g_is_whole_chains (T : Tx K mg) : mg "is_whole_chains" = some (.ref (He.ga K "is_whole_chains")) := by
  have h := T.fact 4 2 (l := FA4) (f := (He.Fa.glo "is_whole_chains").ok) rfl rfl
  exact let ⟨_, X, G⟩ := T.at_; He.glo_ok X G h
theorem g_Entries (T : Tx K mg) : mg "Entries" = some (.ref (He.ga K "Entries")) := by
  have h := T.fact 4 3 (l := FA4) (f := (He.Fa.glo "Entries").ok) rfl rfl
  exact let ⟨_, X, G⟩ := T.at_; He.glo_ok X G h
theorem g_Poly (T : Tx K mg) : mg "Poly" = some (.ref (He.ga K "Poly")) := by
  have h := T.fact 4 4 (l := FA4) (f := (He.Fa.glo "Poly").ok) rfl rfl
  exact let ⟨_, X, G⟩ := T.at_; He.glo_ok X G h
theorem g_Curve (T : Tx K mg) : mg "Curve" = some (.ref (He.ga K "Curve")) := by
  have h := T.fact 4 5 (l := FA4) (f := (He.Fa.glo "Curve").ok) rfl rfl
  exact let ⟨_, X, G⟩ := T.at_; He.glo_ok X G h
theorem g_Function (T : Tx K mg) : mg "Function" = some (.ref (He.ga K "Function")) := by
  have h := T.fact 4 6 (l := FA4) (f := (He.Fa.glo "Function").ok) rfl rfl
  exact let ⟨_, X, G⟩ := T.at_; He.glo_ok X G h
theorem g_Steps (T : Tx K mg) : mg "Steps" = some (.ref (He.ga K "Steps")) := by
  have h := T.fact 4 7 (l := FA4) (f := (He.Fa.glo "Steps").ok) rfl rfl
  exact let ⟨_, X, G⟩ := T.at_; He.glo_ok X G h
theorem g_Round (T : Tx K mg) : mg "Round" = some (.ref (He.ga K "Round")) := by
  have h := T.fact 4 8 (l := FA4) (f := (He.Fa.glo "Round").ok) rfl rfl
  exact let ⟨_, X, G⟩ := T.at_; He.glo_ok X G h
theorem g_GREAT (T : Tx K mg) : ∃ t, mg "GREAT" = some (.int (10 ^ 60) t) := by
  have h := T.fact 4 9 (l := FA4) (f := (He.Fa.int "GREAT" (10 ^ 60)).ok) rfl rfl
  exact let ⟨_, X, G⟩ := T.at_; He.int_ok X G h
theorem g_MAX_ENTRIES (T : Tx K mg) : ∃ t, mg "MAX_ENTRIES" = some (.int (1000) t) := by
  have h := T.fact 4 10 (l := FA4) (f := (He.Fa.int "MAX_ENTRIES" (1000)).ok) rfl rfl
  exact let ⟨_, X, G⟩ := T.at_; He.int_ok X G h
theorem g_MOST_SIGNS (T : Tx K mg) : ∃ t, mg "MOST_SIGNS" = some (.int (9000) t) := by
  have h := T.fact 4 11 (l := FA4) (f := (He.Fa.int "MOST_SIGNS" (9000)).ok) rfl rfl
  exact let ⟨_, X, G⟩ := T.at_; He.int_ok X G h
theorem g_MOST_FIGURES (T : Tx K mg) : ∃ t, mg "MOST_FIGURES" = some (.int (3) t) := by
  have h := T.fact 4 12 (l := FA4) (f := (He.Fa.int "MOST_FIGURES" (3)).ok) rfl rfl
  exact let ⟨_, X, G⟩ := T.at_; He.int_ok X G h
theorem g_MAX_DEGREE (T : Tx K mg) : ∃ t, mg "MAX_DEGREE" = some (.int (8) t) := by
  have h := T.fact 4 13 (l := FA4) (f := (He.Fa.int "MAX_DEGREE" (8)).ok) rfl rfl
  exact let ⟨_, X, G⟩ := T.at_; He.int_ok X G h
theorem g_MAX_LENGTH (T : Tx K mg) : ∃ t, mg "MAX_LENGTH" = some (.int (2000) t) := by
  have h := T.fact 4 14 (l := FA4) (f := (He.Fa.int "MAX_LENGTH" (2000)).ok) rfl rfl
  exact let ⟨_, X, G⟩ := T.at_; He.int_ok X G h
theorem g_MAX_POWER_chains (T : Tx K mg) : ∃ t, mg "MAX_POWER_chains" = some (.int (60) t) := by
  have h := T.fact 4 15 (l := FA4) (f := (He.Fa.int "MAX_POWER_chains" (60)).ok) rfl rfl
  exact let ⟨_, X, G⟩ := T.at_; He.int_ok X G h
theorem g_FIGURES (T : Tx K mg) : ∃ t, mg "FIGURES" = some (.str ("0123456789" : Str) t) := by
  have h := T.fact 4 16 (l := FA4) (f := (He.Fa.str "FIGURES" "0123456789").ok) rfl rfl
  exact let ⟨_, X, G⟩ := T.at_; He.str_ok X G h
theorem g_LETTER (T : Tx K mg) : ∃ t, mg "LETTER" = some (.str ("x" : Str) t) := by
  have h := T.fact 4 17 (l := FA4) (f := (He.Fa.str "LETTER" "x").ok) rfl rfl
  exact let ⟨_, X, G⟩ := T.at_; He.str_ok X G h
theorem g_RIM (T : Tx K mg) : ∃ t, mg "RIM" = some (.str ("rim" : Str) t) := by
  have h := T.fact 4 18 (l := FA4) (f := (He.Fa.str "RIM" "rim").ok) rfl rfl
  exact let ⟨_, X, G⟩ := T.at_; He.str_ok X G h
theorem g_ONE (T : Tx K mg) : ∃ t, mg "ONE" = some (.str ("one" : Str) t) := by
  have h := T.fact 4 19 (l := FA4) (f := (He.Fa.str "ONE" "one").ok) rfl rfl
  exact let ⟨_, X, G⟩ := T.at_; He.str_ok X G h
theorem g_TWO (T : Tx K mg) : ∃ t, mg "TWO" = some (.str ("two" : Str) t) := by
  have h := T.fact 4 20 (l := FA4) (f := (He.Fa.str "TWO" "two").ok) rfl rfl
  exact let ⟨_, X, G⟩ := T.at_; He.str_ok X G h
theorem g_NONE (T : Tx K mg) : ∃ t, mg "NONE" = some (.str ("none" : Str) t) := by
  have h := T.fact 4 21 (l := FA4) (f := (He.Fa.str "NONE" "none").ok) rfl rfl
  exact let ⟨_, X, G⟩ := T.at_; He.str_ok X G h
theorem g_KIND (T : Tx K mg) : ∃ t, mg "KIND" = some (.str ("two" : Str) t) := by
  have h := T.fact 4 22 (l := FA4) (f := (He.Fa.str "KIND" "two").ok) rfl rfl
  exact let ⟨_, X, G⟩ := T.at_; He.str_ok X G h
theorem g_PRIMES (T : Tx K mg) : mg "PRIMES" = some (.ref (He.ga K "PRIMES")) := by
  have h := T.fact 4 23 (l := FA4) (f := (He.Fa.glo "PRIMES").ok) rfl rfl
  exact let ⟨_, X, G⟩ := T.at_; He.glo_ok X G h
theorem t_PRIMES (T : Tx K mg) : ∀ H, SqT K H (He.ga K "PRIMES") (primesL.map V.int) := by
  have h := T.fact 4 24 (l := FA4) (f := (fun K => He.tupB K "PRIMES" (primesL.map He.Dv.int))) rfl rfl
  exact fun H => He.tupB_ok h H
theorem sc_Entries (T : Tx K mg) : SlX.SCls K (He.ga K "Entries") := by
  have h := T.fact 5 0 (l := FA5) (f := (fun K => sclsB K (He.ga K "Entries"))) rfl rfl
  exact sclsB_ok h
theorem sl_Entries_own_row (T : Tx K mg) : SlX.Slot1 K (He.ga K "Entries") "own_row" (He.ma K (He.ga K "Entries") "own_row") 0 := by
  have h := T.fact 5 1 (l := FA5) (f := (fun K => slotB K (He.ga K "Entries") "own_row" 0)) rfl rfl
  exact slotB_ok h
theorem mk_Entries (T : Tx K mg) : Mk K (He.ga K "Entries") (He.ma K (He.ga K "Entries") "__init__") := by
  have h := T.fact 5 2 (l := FA5) (f := (He.Fa.mkr "Entries").ok) rfl rfl
  exact He.mkr_ok h
theorem sc_Poly (T : Tx K mg) : SlX.SCls K (He.ga K "Poly") := by
  have h := T.fact 5 3 (l := FA5) (f := (fun K => sclsB K (He.ga K "Poly"))) rfl rfl
  exact sclsB_ok h
theorem sl_Poly_own_entries (T : Tx K mg) : SlX.Slot1 K (He.ga K "Poly") "own_entries" (He.ma K (He.ga K "Poly") "own_entries") 0 := by
  have h := T.fact 5 4 (l := FA5) (f := (fun K => slotB K (He.ga K "Poly") "own_entries" 0)) rfl rfl
  exact slotB_ok h
theorem sl_Poly_own_lead (T : Tx K mg) : SlX.Slot1 K (He.ga K "Poly") "own_lead" (He.ma K (He.ga K "Poly") "own_lead") 1 := by
  have h := T.fact 5 5 (l := FA5) (f := (fun K => slotB K (He.ga K "Poly") "own_lead" 1)) rfl rfl
  exact slotB_ok h
theorem sl_Poly_own_number (T : Tx K mg) : SlX.Slot1 K (He.ga K "Poly") "own_number" (He.ma K (He.ga K "Poly") "own_number") 2 := by
  have h := T.fact 5 6 (l := FA5) (f := (fun K => slotB K (He.ga K "Poly") "own_number" 2)) rfl rfl
  exact slotB_ok h
theorem sl_Poly_own_prime (T : Tx K mg) : SlX.Slot1 K (He.ga K "Poly") "own_prime" (He.ma K (He.ga K "Poly") "own_prime") 3 := by
  have h := T.fact 5 7 (l := FA5) (f := (fun K => slotB K (He.ga K "Poly") "own_prime" 3)) rfl rfl
  exact slotB_ok h
theorem sl_Poly_own_text (T : Tx K mg) : SlX.Slot1 K (He.ga K "Poly") "own_text" (He.ma K (He.ga K "Poly") "own_text") 4 := by
  have h := T.fact 5 8 (l := FA5) (f := (fun K => slotB K (He.ga K "Poly") "own_text" 4)) rfl rfl
  exact slotB_ok h
theorem mk_Poly (T : Tx K mg) : Mk K (He.ga K "Poly") (He.ma K (He.ga K "Poly") "__init__") := by
  have h := T.fact 5 9 (l := FA5) (f := (He.Fa.mkr "Poly").ok) rfl rfl
  exact He.mkr_ok h
theorem mm_Poly___add__ (T : Tx K mg) : Meth K (He.ga K "Poly") "__add__" (He.ma K (He.ga K "Poly") "__add__") := by
  have h := T.fact 5 10 (l := FA5) (f := (He.Fa.meth "Poly" "__add__").ok) rfl rfl
  exact He.meth_ok h
theorem mm_Poly___sub__ (T : Tx K mg) : Meth K (He.ga K "Poly") "__sub__" (He.ma K (He.ga K "Poly") "__sub__") := by
  have h := T.fact 5 11 (l := FA5) (f := (He.Fa.meth "Poly" "__sub__").ok) rfl rfl
  exact He.meth_ok h
theorem mm_Poly___mul__ (T : Tx K mg) : Meth K (He.ga K "Poly") "__mul__" (He.ma K (He.ga K "Poly") "__mul__") := by
  have h := T.fact 5 12 (l := FA5) (f := (He.Fa.meth "Poly" "__mul__").ok) rfl rfl
  exact He.meth_ok h
theorem mm_Poly___floordiv__ (T : Tx K mg) : Meth K (He.ga K "Poly") "__floordiv__" (He.ma K (He.ga K "Poly") "__floordiv__") := by
  have h := T.fact 5 13 (l := FA5) (f := (He.Fa.meth "Poly" "__floordiv__").ok) rfl rfl
  exact He.meth_ok h
theorem mm_Poly___mod__ (T : Tx K mg) : Meth K (He.ga K "Poly") "__mod__" (He.ma K (He.ga K "Poly") "__mod__") := by
  have h := T.fact 5 14 (l := FA5) (f := (He.Fa.meth "Poly" "__mod__").ok) rfl rfl
  exact He.meth_ok h
theorem mm_Poly___neg__ (T : Tx K mg) : Meth K (He.ga K "Poly") "__neg__" (He.ma K (He.ga K "Poly") "__neg__") := by
  have h := T.fact 5 15 (l := FA5) (f := (He.Fa.meth "Poly" "__neg__").ok) rfl rfl
  exact He.meth_ok h
theorem mm_Poly___call__ (T : Tx K mg) : Meth K (He.ga K "Poly") "__call__" (He.ma K (He.ga K "Poly") "__call__") := by
  have h := T.fact 5 16 (l := FA5) (f := (He.Fa.meth "Poly" "__call__").ok) rfl rfl
  exact He.meth_ok h
theorem mm_Poly___getitem__ (T : Tx K mg) : Meth K (He.ga K "Poly") "__getitem__" (He.ma K (He.ga K "Poly") "__getitem__") := by
  have h := T.fact 5 17 (l := FA5) (f := (He.Fa.meth "Poly" "__getitem__").ok) rfl rfl
  exact He.meth_ok h
theorem mm_Poly_monic (T : Tx K mg) : Meth K (He.ga K "Poly") "monic" (He.ma K (He.ga K "Poly") "monic") := by
  have h := T.fact 5 18 (l := FA5) (f := (He.Fa.meth "Poly" "monic").ok) rfl rfl
  exact He.meth_ok h
theorem mm_Poly_scaled (T : Tx K mg) : Meth K (He.ga K "Poly") "scaled" (He.ma K (He.ga K "Poly") "scaled") := by
  have h := T.fact 5 19 (l := FA5) (f := (He.Fa.meth "Poly" "scaled").ok) rfl rfl
  exact He.meth_ok h
theorem mm_Poly_derivative (T : Tx K mg) : Meth K (He.ga K "Poly") "derivative" (He.ma K (He.ga K "Poly") "derivative") := by
  have h := T.fact 5 20 (l := FA5) (f := (He.Fa.meth "Poly" "derivative").ok) rfl rfl
  exact He.meth_ok h
theorem mm_Poly___eq__ (T : Tx K mg) : Meth K (He.ga K "Poly") "__eq__" (He.ma K (He.ga K "Poly") "__eq__") := by
  have h := T.fact 5 21 (l := FA5) (f := (He.Fa.meth "Poly" "__eq__").ok) rfl rfl
  exact He.meth_ok h
theorem mm_Poly___str__ (T : Tx K mg) : Meth K (He.ga K "Poly") "__str__" (He.ma K (He.ga K "Poly") "__str__") := by
  have h := T.fact 5 22 (l := FA5) (f := (He.Fa.meth "Poly" "__str__").ok) rfl rfl
  exact He.meth_ok h
theorem pp_Poly_prime (T : Tx K mg) : PropOf K (He.ga K "Poly") "prime" (He.ma K (He.ga K "Poly") "prime") (gAd K (He.ga K "Poly") "prime") := by
  have h := T.fact 5 23 (l := FA5) (f := (fun K => propB K (He.ga K "Poly") "prime")) rfl rfl
  exact propB_ok h
theorem pp_Poly_entries (T : Tx K mg) : PropOf K (He.ga K "Poly") "entries" (He.ma K (He.ga K "Poly") "entries") (gAd K (He.ga K "Poly") "entries") := by
  have h := T.fact 5 24 (l := FA5) (f := (fun K => propB K (He.ga K "Poly") "entries")) rfl rfl
  exact propB_ok h
theorem pp_Poly_degree (T : Tx K mg) : PropOf K (He.ga K "Poly") "degree" (He.ma K (He.ga K "Poly") "degree") (gAd K (He.ga K "Poly") "degree") := by
  have h := T.fact 6 0 (l := FA6) (f := (fun K => propB K (He.ga K "Poly") "degree")) rfl rfl
  exact propB_ok h
theorem pp_Poly_lead (T : Tx K mg) : PropOf K (He.ga K "Poly") "lead" (He.ma K (He.ga K "Poly") "lead") (gAd K (He.ga K "Poly") "lead") := by
  have h := T.fact 6 1 (l := FA6) (f := (fun K => propB K (He.ga K "Poly") "lead")) rfl rfl
  exact propB_ok h
theorem pp_Poly_is_zero (T : Tx K mg) : PropOf K (He.ga K "Poly") "is_zero" (He.ma K (He.ga K "Poly") "is_zero") (gAd K (He.ga K "Poly") "is_zero") := by
  have h := T.fact 6 2 (l := FA6) (f := (fun K => propB K (He.ga K "Poly") "is_zero")) rfl rfl
  exact propB_ok h
theorem sc_Curve (T : Tx K mg) : SlX.SCls K (He.ga K "Curve") := by
  have h := T.fact 6 3 (l := FA6) (f := (fun K => sclsB K (He.ga K "Curve"))) rfl rfl
  exact sclsB_ok h
theorem sl_Curve_own_f (T : Tx K mg) : SlX.Slot1 K (He.ga K "Curve") "own_f" (He.ma K (He.ga K "Curve") "own_f") 0 := by
  have h := T.fact 6 4 (l := FA6) (f := (fun K => slotB K (He.ga K "Curve") "own_f" 0)) rfl rfl
  exact slotB_ok h
theorem sl_Curve_own_genus (T : Tx K mg) : SlX.Slot1 K (He.ga K "Curve") "own_genus" (He.ma K (He.ga K "Curve") "own_genus") 1 := by
  have h := T.fact 6 5 (l := FA6) (f := (fun K => slotB K (He.ga K "Curve") "own_genus" 1)) rfl rfl
  exact slotB_ok h
theorem sl_Curve_own_kind (T : Tx K mg) : SlX.Slot1 K (He.ga K "Curve") "own_kind" (He.ma K (He.ga K "Curve") "own_kind") 2 := by
  have h := T.fact 6 6 (l := FA6) (f := (fun K => slotB K (He.ga K "Curve") "own_kind" 2)) rfl rfl
  exact slotB_ok h
theorem sl_Curve_own_points (T : Tx K mg) : SlX.Slot1 K (He.ga K "Curve") "own_points" (He.ma K (He.ga K "Curve") "own_points") 3 := by
  have h := T.fact 6 7 (l := FA6) (f := (fun K => slotB K (He.ga K "Curve") "own_points" 3)) rfl rfl
  exact slotB_ok h
theorem sl_Curve_own_prime (T : Tx K mg) : SlX.Slot1 K (He.ga K "Curve") "own_prime" (He.ma K (He.ga K "Curve") "own_prime") 4 := by
  have h := T.fact 6 8 (l := FA6) (f := (fun K => slotB K (He.ga K "Curve") "own_prime" 4)) rfl rfl
  exact slotB_ok h
theorem sl_Curve_own_rims (T : Tx K mg) : SlX.Slot1 K (He.ga K "Curve") "own_rims" (He.ma K (He.ga K "Curve") "own_rims") 5 := by
  have h := T.fact 6 9 (l := FA6) (f := (fun K => slotB K (He.ga K "Curve") "own_rims" 5)) rfl rfl
  exact slotB_ok h
theorem sl_Curve_own_text (T : Tx K mg) : SlX.Slot1 K (He.ga K "Curve") "own_text" (He.ma K (He.ga K "Curve") "own_text") 6 := by
  have h := T.fact 6 10 (l := FA6) (f := (fun K => slotB K (He.ga K "Curve") "own_text" 6)) rfl rfl
  exact slotB_ok h
theorem mk_Curve (T : Tx K mg) : Mk K (He.ga K "Curve") (He.ma K (He.ga K "Curve") "__init__") := by
  have h := T.fact 6 11 (l := FA6) (f := (He.Fa.mkr "Curve").ok) rfl rfl
  exact He.mkr_ok h
theorem mm_Curve___eq__ (T : Tx K mg) : Meth K (He.ga K "Curve") "__eq__" (He.ma K (He.ga K "Curve") "__eq__") := by
  have h := T.fact 6 12 (l := FA6) (f := (He.Fa.meth "Curve" "__eq__").ok) rfl rfl
  exact He.meth_ok h
theorem pp_Curve_f (T : Tx K mg) : PropOf K (He.ga K "Curve") "f" (He.ma K (He.ga K "Curve") "f") (gAd K (He.ga K "Curve") "f") := by
  have h := T.fact 6 13 (l := FA6) (f := (fun K => propB K (He.ga K "Curve") "f")) rfl rfl
  exact propB_ok h
theorem pp_Curve_prime (T : Tx K mg) : PropOf K (He.ga K "Curve") "prime" (He.ma K (He.ga K "Curve") "prime") (gAd K (He.ga K "Curve") "prime") := by
  have h := T.fact 6 14 (l := FA6) (f := (fun K => propB K (He.ga K "Curve") "prime")) rfl rfl
  exact propB_ok h
theorem pp_Curve_kind (T : Tx K mg) : PropOf K (He.ga K "Curve") "kind" (He.ma K (He.ga K "Curve") "kind") (gAd K (He.ga K "Curve") "kind") := by
  have h := T.fact 6 15 (l := FA6) (f := (fun K => propB K (He.ga K "Curve") "kind")) rfl rfl
  exact propB_ok h
theorem pp_Curve_genus (T : Tx K mg) : PropOf K (He.ga K "Curve") "genus" (He.ma K (He.ga K "Curve") "genus") (gAd K (He.ga K "Curve") "genus") := by
  have h := T.fact 6 16 (l := FA6) (f := (fun K => propB K (He.ga K "Curve") "genus")) rfl rfl
  exact propB_ok h
theorem pp_Curve_rims (T : Tx K mg) : PropOf K (He.ga K "Curve") "rims" (He.ma K (He.ga K "Curve") "rims") (gAd K (He.ga K "Curve") "rims") := by
  have h := T.fact 6 17 (l := FA6) (f := (fun K => propB K (He.ga K "Curve") "rims")) rfl rfl
  exact propB_ok h
theorem sc_Function (T : Tx K mg) : SlX.SCls K (He.ga K "Function") := by
  have h := T.fact 6 18 (l := FA6) (f := (fun K => sclsB K (He.ga K "Function"))) rfl rfl
  exact sclsB_ok h
theorem sl_Function_own_a (T : Tx K mg) : SlX.Slot1 K (He.ga K "Function") "own_a" (He.ma K (He.ga K "Function") "own_a") 0 := by
  have h := T.fact 6 19 (l := FA6) (f := (fun K => slotB K (He.ga K "Function") "own_a" 0)) rfl rfl
  exact slotB_ok h
theorem sl_Function_own_b (T : Tx K mg) : SlX.Slot1 K (He.ga K "Function") "own_b" (He.ma K (He.ga K "Function") "own_b") 1 := by
  have h := T.fact 6 20 (l := FA6) (f := (fun K => slotB K (He.ga K "Function") "own_b" 1)) rfl rfl
  exact slotB_ok h
theorem sl_Function_own_c (T : Tx K mg) : SlX.Slot1 K (He.ga K "Function") "own_c" (He.ma K (He.ga K "Function") "own_c") 2 := by
  have h := T.fact 6 21 (l := FA6) (f := (fun K => slotB K (He.ga K "Function") "own_c" 2)) rfl rfl
  exact slotB_ok h
theorem sl_Function_own_curve (T : Tx K mg) : SlX.Slot1 K (He.ga K "Function") "own_curve" (He.ma K (He.ga K "Function") "own_curve") 3 := by
  have h := T.fact 6 22 (l := FA6) (f := (fun K => slotB K (He.ga K "Function") "own_curve" 3)) rfl rfl
  exact slotB_ok h
theorem sl_Function_own_is_residue (T : Tx K mg) : SlX.Slot1 K (He.ga K "Function") "own_is_residue" (He.ma K (He.ga K "Function") "own_is_residue") 4 := by
  have h := T.fact 6 23 (l := FA6) (f := (fun K => slotB K (He.ga K "Function") "own_is_residue" 4)) rfl rfl
  exact slotB_ok h
theorem sl_Function_own_is_zero (T : Tx K mg) : SlX.Slot1 K (He.ga K "Function") "own_is_zero" (He.ma K (He.ga K "Function") "own_is_zero") 5 := by
  have h := T.fact 6 24 (l := FA6) (f := (fun K => slotB K (He.ga K "Function") "own_is_zero" 5)) rfl rfl
  exact slotB_ok h
theorem sl_Function_own_norm (T : Tx K mg) : SlX.Slot1 K (He.ga K "Function") "own_norm" (He.ma K (He.ga K "Function") "own_norm") 6 := by
  have h := T.fact 7 0 (l := FA7) (f := (fun K => slotB K (He.ga K "Function") "own_norm" 6)) rfl rfl
  exact slotB_ok h
theorem sl_Function_own_size (T : Tx K mg) : SlX.Slot1 K (He.ga K "Function") "own_size" (He.ma K (He.ga K "Function") "own_size") 7 := by
  have h := T.fact 7 1 (l := FA7) (f := (fun K => slotB K (He.ga K "Function") "own_size" 7)) rfl rfl
  exact slotB_ok h
theorem sl_Function_own_text (T : Tx K mg) : SlX.Slot1 K (He.ga K "Function") "own_text" (He.ma K (He.ga K "Function") "own_text") 8 := by
  have h := T.fact 7 2 (l := FA7) (f := (fun K => slotB K (He.ga K "Function") "own_text" 8)) rfl rfl
  exact slotB_ok h
theorem mk_Function (T : Tx K mg) : Mk K (He.ga K "Function") (He.ma K (He.ga K "Function") "__init__") := by
  have h := T.fact 7 3 (l := FA7) (f := (He.Fa.mkr "Function").ok) rfl rfl
  exact He.mkr_ok h
theorem mm_Function___add__ (T : Tx K mg) : Meth K (He.ga K "Function") "__add__" (He.ma K (He.ga K "Function") "__add__") := by
  have h := T.fact 7 4 (l := FA7) (f := (He.Fa.meth "Function" "__add__").ok) rfl rfl
  exact He.meth_ok h
theorem mm_Function___eq__ (T : Tx K mg) : Meth K (He.ga K "Function") "__eq__" (He.ma K (He.ga K "Function") "__eq__") := by
  have h := T.fact 7 5 (l := FA7) (f := (He.Fa.meth "Function" "__eq__").ok) rfl rfl
  exact He.meth_ok h
theorem pp_Function_curve (T : Tx K mg) : PropOf K (He.ga K "Function") "curve" (He.ma K (He.ga K "Function") "curve") (gAd K (He.ga K "Function") "curve") := by
  have h := T.fact 7 6 (l := FA7) (f := (fun K => propB K (He.ga K "Function") "curve")) rfl rfl
  exact propB_ok h
theorem pp_Function_a (T : Tx K mg) : PropOf K (He.ga K "Function") "a" (He.ma K (He.ga K "Function") "a") (gAd K (He.ga K "Function") "a") := by
  have h := T.fact 7 7 (l := FA7) (f := (fun K => propB K (He.ga K "Function") "a")) rfl rfl
  exact propB_ok h
theorem pp_Function_b (T : Tx K mg) : PropOf K (He.ga K "Function") "b" (He.ma K (He.ga K "Function") "b") (gAd K (He.ga K "Function") "b") := by
  have h := T.fact 7 8 (l := FA7) (f := (fun K => propB K (He.ga K "Function") "b")) rfl rfl
  exact propB_ok h
theorem pp_Function_c (T : Tx K mg) : PropOf K (He.ga K "Function") "c" (He.ma K (He.ga K "Function") "c") (gAd K (He.ga K "Function") "c") := by
  have h := T.fact 7 9 (l := FA7) (f := (fun K => propB K (He.ga K "Function") "c")) rfl rfl
  exact propB_ok h
theorem sc_Steps (T : Tx K mg) : SlX.SCls K (He.ga K "Steps") := by
  have h := T.fact 7 10 (l := FA7) (f := (fun K => sclsB K (He.ga K "Steps"))) rfl rfl
  exact sclsB_ok h
theorem sl_Steps_own_f (T : Tx K mg) : SlX.Slot1 K (He.ga K "Steps") "own_f" (He.ma K (He.ga K "Steps") "own_f") 0 := by
  have h := T.fact 7 11 (l := FA7) (f := (fun K => slotB K (He.ga K "Steps") "own_f" 0)) rfl rfl
  exact slotB_ok h
theorem sl_Steps_own_p (T : Tx K mg) : SlX.Slot1 K (He.ga K "Steps") "own_p" (He.ma K (He.ga K "Steps") "own_p") 1 := by
  have h := T.fact 7 12 (l := FA7) (f := (fun K => slotB K (He.ga K "Steps") "own_p" 1)) rfl rfl
  exact slotB_ok h
theorem sl_Steps_own_q (T : Tx K mg) : SlX.Slot1 K (He.ga K "Steps") "own_q" (He.ma K (He.ga K "Steps") "own_q") 2 := by
  have h := T.fact 7 13 (l := FA7) (f := (fun K => slotB K (He.ga K "Steps") "own_q" 2)) rfl rfl
  exact slotB_ok h
theorem sl_Steps_own_root (T : Tx K mg) : SlX.Slot1 K (He.ga K "Steps") "own_root" (He.ma K (He.ga K "Steps") "own_root") 3 := by
  have h := T.fact 7 14 (l := FA7) (f := (fun K => slotB K (He.ga K "Steps") "own_root" 3)) rfl rfl
  exact slotB_ok h
theorem mk_Steps (T : Tx K mg) : Mk K (He.ga K "Steps") (He.ma K (He.ga K "Steps") "__init__") := by
  have h := T.fact 7 15 (l := FA7) (f := (He.Fa.mkr "Steps").ok) rfl rfl
  exact He.mkr_ok h
theorem mm_Steps_go_on (T : Tx K mg) : Meth K (He.ga K "Steps") "go_on" (He.ma K (He.ga K "Steps") "go_on") := by
  have h := T.fact 7 16 (l := FA7) (f := (He.Fa.meth "Steps" "go_on").ok) rfl rfl
  exact He.meth_ok h
theorem mm_Steps_is_round (T : Tx K mg) : Meth K (He.ga K "Steps") "is_round" (He.ma K (He.ga K "Steps") "is_round") := by
  have h := T.fact 7 17 (l := FA7) (f := (He.Fa.meth "Steps" "is_round").ok) rfl rfl
  exact He.meth_ok h
theorem sc_Round (T : Tx K mg) : SlX.SCls K (He.ga K "Round") := by
  have h := T.fact 7 18 (l := FA7) (f := (fun K => sclsB K (He.ga K "Round"))) rfl rfl
  exact sclsB_ok h
theorem sl_Round_own_last (T : Tx K mg) : SlX.Slot1 K (He.ga K "Round") "own_last" (He.ma K (He.ga K "Round") "own_last") 0 := by
  have h := T.fact 7 19 (l := FA7) (f := (fun K => slotB K (He.ga K "Round") "own_last" 0)) rfl rfl
  exact slotB_ok h
theorem sl_Round_own_length (T : Tx K mg) : SlX.Slot1 K (He.ga K "Round") "own_length" (He.ma K (He.ga K "Round") "own_length") 1 := by
  have h := T.fact 7 20 (l := FA7) (f := (fun K => slotB K (He.ga K "Round") "own_length" 1)) rfl rfl
  exact slotB_ok h
theorem sl_Round_own_rows (T : Tx K mg) : SlX.Slot1 K (He.ga K "Round") "own_rows" (He.ma K (He.ga K "Round") "own_rows") 2 := by
  have h := T.fact 7 21 (l := FA7) (f := (fun K => slotB K (He.ga K "Round") "own_rows" 2)) rfl rfl
  exact slotB_ok h
theorem mk_Round (T : Tx K mg) : Mk K (He.ga K "Round") (He.ma K (He.ga K "Round") "__init__") := by
  have h := T.fact 7 22 (l := FA7) (f := (He.Fa.mkr "Round").ok) rfl rfl
  exact He.mkr_ok h
theorem mm_Round_top (T : Tx K mg) : Meth K (He.ga K "Round") "top" (He.ma K (He.ga K "Round") "top") := by
  have h := T.fact 7 23 (l := FA7) (f := (He.Fa.meth "Round" "top").ok) rfl rfl
  exact He.meth_ok h
theorem mm_Round_unit_norm (T : Tx K mg) : Meth K (He.ga K "Round") "unit_norm" (He.ma K (He.ga K "Round") "unit_norm") := by
  have h := T.fact 7 24 (l := FA7) (f := (He.Fa.meth "Round" "unit_norm").ok) rfl rfl
  exact He.meth_ok h
theorem si_Poly (T : Tx K mg) : SlX.SIsi K (He.ga K "Poly") := by
  have h := T.fact 8 0 (l := FA8) (f := (fun K => sisiB K (He.ga K "Poly"))) rfl rfl
  exact sisiB_ok h
theorem si_Curve (T : Tx K mg) : SlX.SIsi K (He.ga K "Curve") := by
  have h := T.fact 8 1 (l := FA8) (f := (fun K => sisiB K (He.ga K "Curve"))) rfl rfl
  exact sisiB_ok h
theorem si_Function (T : Tx K mg) : SlX.SIsi K (He.ga K "Function") := by
  have h := T.fact 8 2 (l := FA8) (f := (fun K => sisiB K (He.ga K "Function"))) rfl rfl
  exact sisiB_ok h
theorem si_Entries (T : Tx K mg) : SlX.SIsi K (He.ga K "Entries") := by
  have h := T.fact 8 3 (l := FA8) (f := (fun K => sisiB K (He.ga K "Entries"))) rfl rfl
  exact sisiB_ok h
theorem sf_Poly (T : Tx K mg) : PySem.W.selfFirst K (He.ga K "Poly") = true := by
  have h := T.fact 8 4 (l := FA8) (f := (fun K => PySem.W.selfFirst K (He.ga K "Poly"))) rfl rfl
  exact h
theorem nf_Poly (T : Tx K mg) : PySem.W.notFirst K (He.ga K "Poly") (.ref (He.ga K "Poly")) = true := by
  have h := T.fact 8 5 (l := FA8) (f := (fun K => PySem.W.notFirst K (He.ga K "Poly") (.ref (He.ga K "Poly")))) rfl rfl
  exact h
theorem mo_Poly (T : Tx K mg) : PySem.W.mroIn K (He.ga K "Poly") (.type "object") = some true := by
  have h := T.fact 8 6 (l := FA8) (f := (fun K => decide (PySem.W.mroIn K (He.ga K "Poly") (.type "object") = some true))) rfl rfl
  exact of_decide_eq_true h
theorem ne_Poly (T : Tx K mg) : PySem.W.findIn K (.ref (He.ga K "Poly")) "__ne__" = some (some (.builtin "object.__ne__")) := by
  have h := T.fact 8 7 (l := FA8) (f := (fun K => He.eqO (PySem.W.findIn K (.ref (He.ga K "Poly")) "__ne__") (some (some (.builtin "object.__ne__"))))) rfl rfl
  exact He.eqO_ok h
theorem sf_Curve (T : Tx K mg) : PySem.W.selfFirst K (He.ga K "Curve") = true := by
  have h := T.fact 8 8 (l := FA8) (f := (fun K => PySem.W.selfFirst K (He.ga K "Curve"))) rfl rfl
  exact h
theorem nf_Curve (T : Tx K mg) : PySem.W.notFirst K (He.ga K "Curve") (.ref (He.ga K "Curve")) = true := by
  have h := T.fact 8 9 (l := FA8) (f := (fun K => PySem.W.notFirst K (He.ga K "Curve") (.ref (He.ga K "Curve")))) rfl rfl
  exact h
theorem mo_Curve (T : Tx K mg) : PySem.W.mroIn K (He.ga K "Curve") (.type "object") = some true := by
  have h := T.fact 8 10 (l := FA8) (f := (fun K => decide (PySem.W.mroIn K (He.ga K "Curve") (.type "object") = some true))) rfl rfl
  exact of_decide_eq_true h
theorem ne_Curve (T : Tx K mg) : PySem.W.findIn K (.ref (He.ga K "Curve")) "__ne__" = some (some (.builtin "object.__ne__")) := by
  have h := T.fact 8 11 (l := FA8) (f := (fun K => He.eqO (PySem.W.findIn K (.ref (He.ga K "Curve")) "__ne__") (some (some (.builtin "object.__ne__"))))) rfl rfl
  exact He.eqO_ok h
theorem sf_Function (T : Tx K mg) : PySem.W.selfFirst K (He.ga K "Function") = true := by
  have h := T.fact 8 12 (l := FA8) (f := (fun K => PySem.W.selfFirst K (He.ga K "Function"))) rfl rfl
  exact h
theorem nf_Function (T : Tx K mg) : PySem.W.notFirst K (He.ga K "Function") (.ref (He.ga K "Function")) = true := by
  have h := T.fact 8 13 (l := FA8) (f := (fun K => PySem.W.notFirst K (He.ga K "Function") (.ref (He.ga K "Function")))) rfl rfl
  exact h
theorem mo_Function (T : Tx K mg) : PySem.W.mroIn K (He.ga K "Function") (.type "object") = some true := by
  have h := T.fact 8 14 (l := FA8) (f := (fun K => decide (PySem.W.mroIn K (He.ga K "Function") (.type "object") = some true))) rfl rfl
  exact of_decide_eq_true h
theorem ne_Function (T : Tx K mg) : PySem.W.findIn K (.ref (He.ga K "Function")) "__ne__" = some (some (.builtin "object.__ne__")) := by
  have h := T.fact 8 15 (l := FA8) (f := (fun K => He.eqO (PySem.W.findIn K (.ref (He.ga K "Function")) "__ne__") (some (some (.builtin "object.__ne__"))))) rfl rfl
  exact He.eqO_ok h
theorem fo_Poly (T : Tx K mg) : PySem.W.findIn K (.ref (He.ga K "Poly")) "__format__" = some (some (.builtin "object.__format__")) := by
  have h := T.fact 8 16 (l := FA8) (f := (fun K => He.eqO (PySem.W.findIn K (.ref (He.ga K "Poly")) "__format__") (some (some (.builtin "object.__format__"))))) rfl rfl
  exact He.eqO_ok h
theorem fi_getitem (T : Tx K mg) : PySem.W.fnIn K (He.ma K (He.ga K "Poly") "__getitem__") = true := by
  have h := T.fact 8 17 (l := FA8) (f := (fun K => PySem.W.fnIn K (He.ma K (He.ga K "Poly") "__getitem__"))) rfl rfl
  exact h
theorem fi_call (T : Tx K mg) : PySem.W.fnIn K (He.ma K (He.ga K "Poly") "__call__") = true := by
  have h := T.fact 8 18 (l := FA8) (f := (fun K => PySem.W.fnIn K (He.ma K (He.ga K "Poly") "__call__"))) rfl rfl
  exact h
theorem ki_Poly_Poly (T : Tx K mg) : PySem.W.kitOne K (.ref (He.ga K "Poly")) (.ref (He.ga K "Poly")) = some true := by
  have h := T.fact 8 19 (l := FA8) (f := (fun K => decide (PySem.W.kitOne K (.ref (He.ga K "Poly")) (.ref (He.ga K "Poly")) = some true))) rfl rfl
  exact of_decide_eq_true h
theorem ki_Poly_Curve (T : Tx K mg) : PySem.W.kitOne K (.ref (He.ga K "Poly")) (.ref (He.ga K "Curve")) = some false := by
  have h := T.fact 8 20 (l := FA8) (f := (fun K => decide (PySem.W.kitOne K (.ref (He.ga K "Poly")) (.ref (He.ga K "Curve")) = some false))) rfl rfl
  exact of_decide_eq_true h
theorem ki_Poly_Function (T : Tx K mg) : PySem.W.kitOne K (.ref (He.ga K "Poly")) (.ref (He.ga K "Function")) = some false := by
  have h := T.fact 8 21 (l := FA8) (f := (fun K => decide (PySem.W.kitOne K (.ref (He.ga K "Poly")) (.ref (He.ga K "Function")) = some false))) rfl rfl
  exact of_decide_eq_true h
theorem ki_Poly_Entries (T : Tx K mg) : PySem.W.kitOne K (.ref (He.ga K "Poly")) (.ref (He.ga K "Entries")) = some false := by
  have h := T.fact 8 22 (l := FA8) (f := (fun K => decide (PySem.W.kitOne K (.ref (He.ga K "Poly")) (.ref (He.ga K "Entries")) = some false))) rfl rfl
  exact of_decide_eq_true h
theorem ki_Curve_Poly (T : Tx K mg) : PySem.W.kitOne K (.ref (He.ga K "Curve")) (.ref (He.ga K "Poly")) = some false := by
  have h := T.fact 8 23 (l := FA8) (f := (fun K => decide (PySem.W.kitOne K (.ref (He.ga K "Curve")) (.ref (He.ga K "Poly")) = some false))) rfl rfl
  exact of_decide_eq_true h
theorem ki_Curve_Curve (T : Tx K mg) : PySem.W.kitOne K (.ref (He.ga K "Curve")) (.ref (He.ga K "Curve")) = some true := by
  have h := T.fact 8 24 (l := FA8) (f := (fun K => decide (PySem.W.kitOne K (.ref (He.ga K "Curve")) (.ref (He.ga K "Curve")) = some true))) rfl rfl
  exact of_decide_eq_true h
theorem ki_Curve_Function (T : Tx K mg) : PySem.W.kitOne K (.ref (He.ga K "Curve")) (.ref (He.ga K "Function")) = some false := by
  have h := T.fact 9 0 (l := FA9) (f := (fun K => decide (PySem.W.kitOne K (.ref (He.ga K "Curve")) (.ref (He.ga K "Function")) = some false))) rfl rfl
  exact of_decide_eq_true h
theorem ki_Curve_Entries (T : Tx K mg) : PySem.W.kitOne K (.ref (He.ga K "Curve")) (.ref (He.ga K "Entries")) = some false := by
  have h := T.fact 9 1 (l := FA9) (f := (fun K => decide (PySem.W.kitOne K (.ref (He.ga K "Curve")) (.ref (He.ga K "Entries")) = some false))) rfl rfl
  exact of_decide_eq_true h
theorem ki_Function_Poly (T : Tx K mg) : PySem.W.kitOne K (.ref (He.ga K "Function")) (.ref (He.ga K "Poly")) = some false := by
  have h := T.fact 9 2 (l := FA9) (f := (fun K => decide (PySem.W.kitOne K (.ref (He.ga K "Function")) (.ref (He.ga K "Poly")) = some false))) rfl rfl
  exact of_decide_eq_true h
theorem ki_Function_Curve (T : Tx K mg) : PySem.W.kitOne K (.ref (He.ga K "Function")) (.ref (He.ga K "Curve")) = some false := by
  have h := T.fact 9 3 (l := FA9) (f := (fun K => decide (PySem.W.kitOne K (.ref (He.ga K "Function")) (.ref (He.ga K "Curve")) = some false))) rfl rfl
  exact of_decide_eq_true h
theorem ki_Function_Function (T : Tx K mg) : PySem.W.kitOne K (.ref (He.ga K "Function")) (.ref (He.ga K "Function")) = some true := by
  have h := T.fact 9 4 (l := FA9) (f := (fun K => decide (PySem.W.kitOne K (.ref (He.ga K "Function")) (.ref (He.ga K "Function")) = some true))) rfl rfl
  exact of_decide_eq_true h
theorem ki_Function_Entries (T : Tx K mg) : PySem.W.kitOne K (.ref (He.ga K "Function")) (.ref (He.ga K "Entries")) = some false := by
  have h := T.fact 9 5 (l := FA9) (f := (fun K => decide (PySem.W.kitOne K (.ref (He.ga K "Function")) (.ref (He.ga K "Entries")) = some false))) rfl rfl
  exact of_decide_eq_true h
theorem ki_Entries_Poly (T : Tx K mg) : PySem.W.kitOne K (.ref (He.ga K "Entries")) (.ref (He.ga K "Poly")) = some false := by
  have h := T.fact 9 6 (l := FA9) (f := (fun K => decide (PySem.W.kitOne K (.ref (He.ga K "Entries")) (.ref (He.ga K "Poly")) = some false))) rfl rfl
  exact of_decide_eq_true h
theorem ki_Entries_Curve (T : Tx K mg) : PySem.W.kitOne K (.ref (He.ga K "Entries")) (.ref (He.ga K "Curve")) = some false := by
  have h := T.fact 9 7 (l := FA9) (f := (fun K => decide (PySem.W.kitOne K (.ref (He.ga K "Entries")) (.ref (He.ga K "Curve")) = some false))) rfl rfl
  exact of_decide_eq_true h
theorem ki_Entries_Function (T : Tx K mg) : PySem.W.kitOne K (.ref (He.ga K "Entries")) (.ref (He.ga K "Function")) = some false := by
  have h := T.fact 9 8 (l := FA9) (f := (fun K => decide (PySem.W.kitOne K (.ref (He.ga K "Entries")) (.ref (He.ga K "Function")) = some false))) rfl rfl
  exact of_decide_eq_true h
theorem ki_Entries_Entries (T : Tx K mg) : PySem.W.kitOne K (.ref (He.ga K "Entries")) (.ref (He.ga K "Entries")) = some true := by
  have h := T.fact 9 9 (l := FA9) (f := (fun K => decide (PySem.W.kitOne K (.ref (He.ga K "Entries")) (.ref (He.ga K "Entries")) = some true))) rfl rfl
  exact of_decide_eq_true h
theorem kt_tuple_Poly (T : Tx K mg) : PySem.W.kitOne K (.type "tuple") (.ref (He.ga K "Poly")) = some false := by
  have h := T.fact 9 10 (l := FA9) (f := (fun K => decide (PySem.W.kitOne K (.type "tuple") (.ref (He.ga K "Poly")) = some false))) rfl rfl
  exact of_decide_eq_true h
theorem kt_tuple_Curve (T : Tx K mg) : PySem.W.kitOne K (.type "tuple") (.ref (He.ga K "Curve")) = some false := by
  have h := T.fact 9 11 (l := FA9) (f := (fun K => decide (PySem.W.kitOne K (.type "tuple") (.ref (He.ga K "Curve")) = some false))) rfl rfl
  exact of_decide_eq_true h
theorem kt_tuple_Function (T : Tx K mg) : PySem.W.kitOne K (.type "tuple") (.ref (He.ga K "Function")) = some false := by
  have h := T.fact 9 12 (l := FA9) (f := (fun K => decide (PySem.W.kitOne K (.type "tuple") (.ref (He.ga K "Function")) = some false))) rfl rfl
  exact of_decide_eq_true h
theorem kt_tuple_Entries (T : Tx K mg) : PySem.W.kitOne K (.type "tuple") (.ref (He.ga K "Entries")) = some false := by
  have h := T.fact 9 13 (l := FA9) (f := (fun K => decide (PySem.W.kitOne K (.type "tuple") (.ref (He.ga K "Entries")) = some false))) rfl rfl
  exact of_decide_eq_true h
theorem kt_NoneType_Poly (T : Tx K mg) : PySem.W.kitOne K (.type "NoneType") (.ref (He.ga K "Poly")) = some false := by
  have h := T.fact 9 14 (l := FA9) (f := (fun K => decide (PySem.W.kitOne K (.type "NoneType") (.ref (He.ga K "Poly")) = some false))) rfl rfl
  exact of_decide_eq_true h
theorem kt_NoneType_Curve (T : Tx K mg) : PySem.W.kitOne K (.type "NoneType") (.ref (He.ga K "Curve")) = some false := by
  have h := T.fact 9 15 (l := FA9) (f := (fun K => decide (PySem.W.kitOne K (.type "NoneType") (.ref (He.ga K "Curve")) = some false))) rfl rfl
  exact of_decide_eq_true h
theorem kt_NoneType_Function (T : Tx K mg) : PySem.W.kitOne K (.type "NoneType") (.ref (He.ga K "Function")) = some false := by
  have h := T.fact 9 16 (l := FA9) (f := (fun K => decide (PySem.W.kitOne K (.type "NoneType") (.ref (He.ga K "Function")) = some false))) rfl rfl
  exact of_decide_eq_true h
theorem kt_NoneType_Entries (T : Tx K mg) : PySem.W.kitOne K (.type "NoneType") (.ref (He.ga K "Entries")) = some false := by
  have h := T.fact 9 17 (l := FA9) (f := (fun K => decide (PySem.W.kitOne K (.type "NoneType") (.ref (He.ga K "Entries")) = some false))) rfl rfl
  exact of_decide_eq_true h
theorem kt_int_Poly (T : Tx K mg) : PySem.W.kitOne K (.type "int") (.ref (He.ga K "Poly")) = some false := by
  have h := T.fact 9 18 (l := FA9) (f := (fun K => decide (PySem.W.kitOne K (.type "int") (.ref (He.ga K "Poly")) = some false))) rfl rfl
  exact of_decide_eq_true h
theorem kt_int_Curve (T : Tx K mg) : PySem.W.kitOne K (.type "int") (.ref (He.ga K "Curve")) = some false := by
  have h := T.fact 9 19 (l := FA9) (f := (fun K => decide (PySem.W.kitOne K (.type "int") (.ref (He.ga K "Curve")) = some false))) rfl rfl
  exact of_decide_eq_true h
theorem kt_int_Function (T : Tx K mg) : PySem.W.kitOne K (.type "int") (.ref (He.ga K "Function")) = some false := by
  have h := T.fact 9 20 (l := FA9) (f := (fun K => decide (PySem.W.kitOne K (.type "int") (.ref (He.ga K "Function")) = some false))) rfl rfl
  exact of_decide_eq_true h
theorem kt_int_Entries (T : Tx K mg) : PySem.W.kitOne K (.type "int") (.ref (He.ga K "Entries")) = some false := by
  have h := T.fact 9 21 (l := FA9) (f := (fun K => decide (PySem.W.kitOne K (.type "int") (.ref (He.ga K "Entries")) = some false))) rfl rfl
  exact of_decide_eq_true h
theorem kb_int_int (T : Tx K mg) : PySem.W.kitOne K (.type "int") (.type "int") = some true := by
  have h := T.fact 9 22 (l := FA9) (f := (fun K => decide (PySem.W.kitOne K (.type "int") (.type "int") = some true))) rfl rfl
  exact of_decide_eq_true h
theorem kb_int_bool (T : Tx K mg) : PySem.W.kitOne K (.type "int") (.type "bool") = some false := by
  have h := T.fact 9 23 (l := FA9) (f := (fun K => decide (PySem.W.kitOne K (.type "int") (.type "bool") = some false))) rfl rfl
  exact of_decide_eq_true h
theorem kb_tuple_tuple (T : Tx K mg) : PySem.W.kitOne K (.type "tuple") (.type "tuple") = some true := by
  have h := T.fact 9 24 (l := FA9) (f := (fun K => decide (PySem.W.kitOne K (.type "tuple") (.type "tuple") = some true))) rfl rfl
  exact of_decide_eq_true h
theorem kb_str_str (T : Tx K mg) : PySem.W.kitOne K (.type "str") (.type "str") = some true := by
  have h := T.fact 10 0 (l := FA10) (f := (fun K => decide (PySem.W.kitOne K (.type "str") (.type "str") = some true))) rfl rfl
  exact of_decide_eq_true h
theorem kb_tuple_int (T : Tx K mg) : PySem.W.kitOne K (.type "tuple") (.type "int") = some false := by
  have h := T.fact 10 1 (l := FA10) (f := (fun K => decide (PySem.W.kitOne K (.type "tuple") (.type "int") = some false))) rfl rfl
  exact of_decide_eq_true h
theorem kb_NoneType_int (T : Tx K mg) : PySem.W.kitOne K (.type "NoneType") (.type "int") = some false := by
  have h := T.fact 10 2 (l := FA10) (f := (fun K => decide (PySem.W.kitOne K (.type "NoneType") (.type "int") = some false))) rfl rfl
  exact of_decide_eq_true h
theorem d_is_integer (T : Tx K mg) : FnX K "is_integer" "is_integer" (TOP 16) (He.ga K "is_integer") := T.def_ 0 0 (l := DF0) (d := ⟨fun K => He.ga K "is_integer", "is_integer", "is_integer", TOP 16⟩) rfl rfl
theorem d_is_prime (T : Tx K mg) : FnX K "is_prime" "is_prime" (TOP 17) (He.ga K "is_prime") := T.def_ 0 1 (l := DF0) (d := ⟨fun K => He.ga K "is_prime", "is_prime", "is_prime", TOP 17⟩) rfl rfl
theorem d_require_prime (T : Tx K mg) : FnX K "require_prime" "require_prime" (TOP 18) (He.ga K "require_prime") := T.def_ 0 2 (l := DF0) (d := ⟨fun K => He.ga K "require_prime", "require_prime", "require_prime", TOP 18⟩) rfl rfl
theorem d_require_count (T : Tx K mg) : FnX K "require_count" "require_count" (TOP 19) (He.ga K "require_count") := T.def_ 0 3 (l := DF0) (d := ⟨fun K => He.ga K "require_count", "require_count", "require_count", TOP 19⟩) rfl rfl
theorem d_is_residue_of (T : Tx K mg) : FnX K "is_residue_of" "is_residue_of" (TOP 20) (He.ga K "is_residue_of") := T.def_ 0 4 (l := DF0) (d := ⟨fun K => He.ga K "is_residue_of", "is_residue_of", "is_residue_of", TOP 20⟩) rfl rfl
theorem d_inverse_of (T : Tx K mg) : FnX K "inverse_of" "inverse_of" (TOP 21) (He.ga K "inverse_of") := T.def_ 0 5 (l := DF0) (d := ⟨fun K => He.ga K "inverse_of", "inverse_of", "inverse_of", TOP 21⟩) rfl rfl
theorem d_residue_inverse (T : Tx K mg) : FnX K "residue_inverse" "residue_inverse" (TOP 22) (He.ga K "residue_inverse") := T.def_ 0 6 (l := DF0) (d := ⟨fun K => He.ga K "residue_inverse", "residue_inverse", "residue_inverse", TOP 22⟩) rfl rfl
theorem d_poly_row (T : Tx K mg) : FnX K "poly_row" "poly_row" (TOP 31) (He.ga K "poly_row") := T.def_ 0 7 (l := DF0) (d := ⟨fun K => He.ga K "poly_row", "poly_row", "poly_row", TOP 31⟩) rfl rfl
theorem d_made (T : Tx K mg) : FnX K "made" "made" (TOP 32) (He.ga K "made") := T.def_ 0 8 (l := DF0) (d := ⟨fun K => He.ga K "made", "made", "made", TOP 32⟩) rfl rfl
theorem d_are_poly_entries (T : Tx K mg) : FnX K "are_poly_entries" "are_poly_entries" (TOP 34) (He.ga K "are_poly_entries") := T.def_ 0 9 (l := DF0) (d := ⟨fun K => He.ga K "are_poly_entries", "are_poly_entries", "are_poly_entries", TOP 34⟩) rfl rfl
theorem d_poly_number (T : Tx K mg) : FnX K "poly_number" "poly_number" (TOP 35) (He.ga K "poly_number") := T.def_ 0 10 (l := DF0) (d := ⟨fun K => He.ga K "poly_number", "poly_number", "poly_number", TOP 35⟩) rfl rfl
theorem d_poly_term (T : Tx K mg) : FnX K "poly_term" "poly_term" (TOP 36) (He.ga K "poly_term") := T.def_ 0 11 (l := DF0) (d := ⟨fun K => He.ga K "poly_term", "poly_term", "poly_term", TOP 36⟩) rfl rfl
theorem d_poly_text (T : Tx K mg) : FnX K "poly_text" "poly_text" (TOP 37) (He.ga K "poly_text") := T.def_ 0 12 (l := DF0) (d := ⟨fun K => He.ga K "poly_text", "poly_text", "poly_text", TOP 37⟩) rfl rfl
theorem d_poly_figures (T : Tx K mg) : FnX K "poly_figures" "poly_figures" (TOP 38) (He.ga K "poly_figures") := T.def_ 0 13 (l := DF0) (d := ⟨fun K => He.ga K "poly_figures", "poly_figures", "poly_figures", TOP 38⟩) rfl rfl
theorem d_poly_term_in (T : Tx K mg) : FnX K "poly_term_in" "poly_term_in" (TOP 39) (He.ga K "poly_term_in") := T.def_ 0 14 (l := DF0) (d := ⟨fun K => He.ga K "poly_term_in", "poly_term_in", "poly_term_in", TOP 39⟩) rfl rfl
theorem d_poly_row_in (T : Tx K mg) : FnX K "poly_row_in" "poly_row_in" (TOP 40) (He.ga K "poly_row_in") := T.def_ 0 15 (l := DF0) (d := ⟨fun K => He.ga K "poly_row_in", "poly_row_in", "poly_row_in", TOP 40⟩) rfl rfl
theorem d_poly_sum (T : Tx K mg) : FnX K "poly_sum" "poly_sum" (TOP 41) (He.ga K "poly_sum") := T.def_ 0 16 (l := DF0) (d := ⟨fun K => He.ga K "poly_sum", "poly_sum", "poly_sum", TOP 41⟩) rfl rfl
theorem d_poly_opposite (T : Tx K mg) : FnX K "poly_opposite" "poly_opposite" (TOP 42) (He.ga K "poly_opposite") := T.def_ 0 17 (l := DF0) (d := ⟨fun K => He.ga K "poly_opposite", "poly_opposite", "poly_opposite", TOP 42⟩) rfl rfl
theorem d_poly_product (T : Tx K mg) : FnX K "poly_product" "poly_product" (TOP 43) (He.ga K "poly_product") := T.def_ 0 18 (l := DF0) (d := ⟨fun K => He.ga K "poly_product", "poly_product", "poly_product", TOP 43⟩) rfl rfl
theorem d_poly_inverse (T : Tx K mg) : FnX K "poly_inverse" "poly_inverse" (TOP 44) (He.ga K "poly_inverse") := T.def_ 0 19 (l := DF0) (d := ⟨fun K => He.ga K "poly_inverse", "poly_inverse", "poly_inverse", TOP 44⟩) rfl rfl
theorem d_poly_divided (T : Tx K mg) : FnX K "poly_divided" "poly_divided" (TOP 45) (He.ga K "poly_divided") := T.def_ 0 20 (l := DF0) (d := ⟨fun K => He.ga K "poly_divided", "poly_divided", "poly_divided", TOP 45⟩) rfl rfl
theorem d_require_poly (T : Tx K mg) : FnX K "require_poly" "require_poly" (TOP 47) (He.ga K "require_poly") := T.def_ 0 21 (l := DF0) (d := ⟨fun K => He.ga K "require_poly", "require_poly", "require_poly", TOP 47⟩) rfl rfl
theorem d_require_same_prime (T : Tx K mg) : FnX K "require_same_prime" "require_same_prime" (TOP 48) (He.ga K "require_same_prime") := T.def_ 0 22 (l := DF0) (d := ⟨fun K => He.ga K "require_same_prime", "require_same_prime", "require_same_prime", TOP 48⟩) rfl rfl
theorem d_require_divisor (T : Tx K mg) : FnX K "require_divisor" "require_divisor" (TOP 49) (He.ga K "require_divisor") := T.def_ 0 23 (l := DF0) (d := ⟨fun K => He.ga K "require_divisor", "require_divisor", "require_divisor", TOP 49⟩) rfl rfl
theorem d_monic_or_zero (T : Tx K mg) : FnX K "monic_or_zero" "monic_or_zero" (TOP 51) (He.ga K "monic_or_zero") := T.def_ 0 24 (l := DF0) (d := ⟨fun K => He.ga K "monic_or_zero", "monic_or_zero", "monic_or_zero", TOP 51⟩) rfl rfl
theorem d_common_of (T : Tx K mg) : FnX K "common_of" "common_of" (TOP 52) (He.ga K "common_of") := T.def_ 1 0 (l := DF1) (d := ⟨fun K => He.ga K "common_of", "common_of", "common_of", TOP 52⟩) rfl rfl
theorem d_is_square_free (T : Tx K mg) : FnX K "is_square_free" "is_square_free" (TOP 53) (He.ga K "is_square_free") := T.def_ 1 1 (l := DF1) (d := ⟨fun K => He.ga K "is_square_free", "is_square_free", "is_square_free", TOP 53⟩) rfl rfl
theorem d_square_roots (T : Tx K mg) : FnX K "square_roots" "square_roots" (TOP 60) (He.ga K "square_roots") := T.def_ 1 2 (l := DF1) (d := ⟨fun K => He.ga K "square_roots", "square_roots", "square_roots", TOP 60⟩) rfl rfl
theorem d_kind_in (T : Tx K mg) : FnX K "kind_in" "kind_in" (TOP 61) (He.ga K "kind_in") := T.def_ 1 3 (l := DF1) (d := ⟨fun K => He.ga K "kind_in", "kind_in", "kind_in", TOP 61⟩) rfl rfl
theorem d_rims_in (T : Tx K mg) : FnX K "rims_in" "rims_in" (TOP 62) (He.ga K "rims_in") := T.def_ 1 4 (l := DF1) (d := ⟨fun K => He.ga K "rims_in", "rims_in", "rims_in", TOP 62⟩) rfl rfl
theorem d_points_in (T : Tx K mg) : FnX K "points_in" "points_in" (TOP 63) (He.ga K "points_in") := T.def_ 1 5 (l := DF1) (d := ⟨fun K => He.ga K "points_in", "points_in", "points_in", TOP 63⟩) rfl rfl
theorem d_require_curve (T : Tx K mg) : FnX K "require_curve" "require_curve" (TOP 66) (He.ga K "require_curve") := T.def_ 1 6 (l := DF1) (d := ⟨fun K => He.ga K "require_curve", "require_curve", "require_curve", TOP 66⟩) rfl rfl
theorem d_residue_power (T : Tx K mg) : FnX K "residue_power" "residue_power" (TOP 68) (He.ga K "residue_power") := T.def_ 1 7 (l := DF1) (d := ⟨fun K => He.ga K "residue_power", "residue_power", "residue_power", TOP 68⟩) rfl rfl
theorem d_shared_part (T : Tx K mg) : FnX K "shared_part" "shared_part" (TOP 71) (He.ga K "shared_part") := T.def_ 1 8 (l := DF1) (d := ⟨fun K => He.ga K "shared_part", "shared_part", "shared_part", TOP 71⟩) rfl rfl
theorem d_least_terms (T : Tx K mg) : FnX K "least_terms" "least_terms" (TOP 72) (He.ga K "least_terms") := T.def_ 1 9 (l := DF1) (d := ⟨fun K => He.ga K "least_terms", "least_terms", "least_terms", TOP 72⟩) rfl rfl
theorem d_lowered_pair (T : Tx K mg) : FnX K "lowered_pair" "lowered_pair" (TOP 73) (He.ga K "lowered_pair") := T.def_ 1 10 (l := DF1) (d := ⟨fun K => He.ga K "lowered_pair", "lowered_pair", "lowered_pair", TOP 73⟩) rfl rfl
theorem d_told_function (T : Tx K mg) : FnX K "told_function" "told_function" (TOP 74) (He.ga K "told_function") := T.def_ 1 11 (l := DF1) (d := ⟨fun K => He.ga K "told_function", "told_function", "told_function", TOP 74⟩) rfl rfl
theorem d_require_one_curve (T : Tx K mg) : FnX K "require_one_curve" "require_one_curve" (TOP 77) (He.ga K "require_one_curve") := T.def_ 1 12 (l := DF1) (d := ⟨fun K => He.ga K "require_one_curve", "require_one_curve", "require_one_curve", TOP 77⟩) rfl rfl
theorem d_require_two (T : Tx K mg) : FnX K "require_two" "require_two" (TOP 82) (He.ga K "require_two") := T.def_ 1 13 (l := DF1) (d := ⟨fun K => He.ga K "require_two", "require_two", "require_two", TOP 82⟩) rfl rfl
theorem d_require_within (T : Tx K mg) : FnX K "require_within" "require_within" (TOP 83) (He.ga K "require_within") := T.def_ 1 14 (l := DF1) (d := ⟨fun K => He.ga K "require_within", "require_within", "require_within", TOP 83⟩) rfl rfl
theorem d_root_in (T : Tx K mg) : FnX K "root_in" "root_in" (TOP 84) (He.ga K "root_in") := T.def_ 1 15 (l := DF1) (d := ⟨fun K => He.ga K "root_in", "root_in", "root_in", TOP 84⟩) rfl rfl
theorem d_ends_of (T : Tx K mg) : FnX K "ends_of" "ends_of" (TOP 87) (He.ga K "ends_of") := T.def_ 1 16 (l := DF1) (d := ⟨fun K => He.ga K "ends_of", "ends_of", "ends_of", TOP 87⟩) rfl rfl
theorem d_function_of (T : Tx K mg) : FnX K "function_of" "function_of" (TOP 88) (He.ga K "function_of") := T.def_ 1 17 (l := DF1) (d := ⟨fun K => He.ga K "function_of", "function_of", "function_of", TOP 88⟩) rfl rfl
theorem d_scaled_pair (T : Tx K mg) : FnX K "scaled_pair" "scaled_pair" (TOP 89) (He.ga K "scaled_pair") := T.def_ 1 18 (l := DF1) (d := ⟨fun K => He.ga K "scaled_pair", "scaled_pair", "scaled_pair", TOP 89⟩) rfl rfl
theorem d_unit_pair (T : Tx K mg) : FnX K "unit_pair" "unit_pair" (TOP 90) (He.ga K "unit_pair") := T.def_ 1 19 (l := DF1) (d := ⟨fun K => He.ga K "unit_pair", "unit_pair", "unit_pair", TOP 90⟩) rfl rfl
theorem d_length_of (T : Tx K mg) : FnX K "length_of" "length_of" (TOP 91) (He.ga K "length_of") := T.def_ 1 20 (l := DF1) (d := ⟨fun K => He.ga K "length_of", "length_of", "length_of", TOP 91⟩) rfl rfl
theorem d_least_unit (T : Tx K mg) : FnX K "least_unit" "least_unit" (TOP 92) (He.ga K "least_unit") := T.def_ 1 21 (l := DF1) (d := ⟨fun K => He.ga K "least_unit", "least_unit", "least_unit", TOP 92⟩) rfl rfl
theorem d_product_of (T : Tx K mg) : FnX K "product_of" "product_of" (TOP 93) (He.ga K "product_of") := T.def_ 1 22 (l := DF1) (d := ⟨fun K => He.ga K "product_of", "product_of", "product_of", TOP 93⟩) rfl rfl
theorem d_unit_power (T : Tx K mg) : FnX K "unit_power" "unit_power" (TOP 94) (He.ga K "unit_power") := T.def_ 1 23 (l := DF1) (d := ⟨fun K => He.ga K "unit_power", "unit_power", "unit_power", TOP 94⟩) rfl rfl
theorem d_norm_in (T : Tx K mg) : FnX K "norm_in" "norm_in" (TOP 97) (He.ga K "norm_in") := T.def_ 1 24 (l := DF1) (d := ⟨fun K => He.ga K "norm_in", "norm_in", "norm_in", TOP 97⟩) rfl rfl
theorem d_is_unit_of (T : Tx K mg) : FnX K "is_unit_of" "is_unit_of" (TOP 98) (He.ga K "is_unit_of") := T.def_ 2 0 (l := DF2) (d := ⟨fun K => He.ga K "is_unit_of", "is_unit_of", "is_unit_of", TOP 98⟩) rfl rfl
theorem d_is_unit (T : Tx K mg) : FnX K "is_unit" "is_unit" (TOP 99) (He.ga K "is_unit") := T.def_ 2 1 (l := DF2) (d := ⟨fun K => He.ga K "is_unit", "is_unit", "is_unit", TOP 99⟩) rfl rfl
theorem d_unit_parts (T : Tx K mg) : FnX K "unit_parts" "unit_parts" (TOP 100) (He.ga K "unit_parts") := T.def_ 2 2 (l := DF2) (d := ⟨fun K => He.ga K "unit_parts", "unit_parts", "unit_parts", TOP 100⟩) rfl rfl
theorem d__law_dice (T : Tx K mg) : FnX K "_law_dice" "_law_dice" (TOP 102) (He.ga K "_law_dice") := T.def_ 2 3 (l := DF2) (d := ⟨fun K => He.ga K "_law_dice", "_law_dice", "_law_dice", TOP 102⟩) rfl rfl
theorem d__law_roll (T : Tx K mg) : FnX K "_law_roll" "_law_roll" (TOP 103) (He.ga K "_law_roll") := T.def_ 2 4 (l := DF2) (d := ⟨fun K => He.ga K "_law_roll", "_law_roll", "_law_roll", TOP 103⟩) rfl rfl
theorem d__law_pick (T : Tx K mg) : FnX K "_law_pick" "_law_pick" (TOP 104) (He.ga K "_law_pick") := T.def_ 2 5 (l := DF2) (d := ⟨fun K => He.ga K "_law_pick", "_law_pick", "_law_pick", TOP 104⟩) rfl rfl
theorem d__law_trim (T : Tx K mg) : FnX K "_law_trim" "_law_trim" (TOP 105) (He.ga K "_law_trim") := T.def_ 2 6 (l := DF2) (d := ⟨fun K => He.ga K "_law_trim", "_law_trim", "_law_trim", TOP 105⟩) rfl rfl
theorem d__law_plus (T : Tx K mg) : FnX K "_law_plus" "_law_plus" (TOP 106) (He.ga K "_law_plus") := T.def_ 2 7 (l := DF2) (d := ⟨fun K => He.ga K "_law_plus", "_law_plus", "_law_plus", TOP 106⟩) rfl rfl
theorem d__law_turned (T : Tx K mg) : FnX K "_law_turned" "_law_turned" (TOP 107) (He.ga K "_law_turned") := T.def_ 2 8 (l := DF2) (d := ⟨fun K => He.ga K "_law_turned", "_law_turned", "_law_turned", TOP 107⟩) rfl rfl
theorem d__law_less (T : Tx K mg) : FnX K "_law_less" "_law_less" (TOP 108) (He.ga K "_law_less") := T.def_ 2 9 (l := DF2) (d := ⟨fun K => He.ga K "_law_less", "_law_less", "_law_less", TOP 108⟩) rfl rfl
theorem d__law_times (T : Tx K mg) : FnX K "_law_times" "_law_times" (TOP 109) (He.ga K "_law_times") := T.def_ 2 10 (l := DF2) (d := ⟨fun K => He.ga K "_law_times", "_law_times", "_law_times", TOP 109⟩) rfl rfl
theorem d__law_inverse (T : Tx K mg) : FnX K "_law_inverse" "_law_inverse" (TOP 110) (He.ga K "_law_inverse") := T.def_ 2 11 (l := DF2) (d := ⟨fun K => He.ga K "_law_inverse", "_law_inverse", "_law_inverse", TOP 110⟩) rfl rfl
theorem d__law_divided (T : Tx K mg) : FnX K "_law_divided" "_law_divided" (TOP 111) (He.ga K "_law_divided") := T.def_ 2 12 (l := DF2) (d := ⟨fun K => He.ga K "_law_divided", "_law_divided", "_law_divided", TOP 111⟩) rfl rfl
theorem d__law_rest (T : Tx K mg) : FnX K "_law_rest" "_law_rest" (TOP 112) (He.ga K "_law_rest") := T.def_ 2 13 (l := DF2) (d := ⟨fun K => He.ga K "_law_rest", "_law_rest", "_law_rest", TOP 112⟩) rfl rfl
theorem d__law_monic (T : Tx K mg) : FnX K "_law_monic" "_law_monic" (TOP 113) (He.ga K "_law_monic") := T.def_ 2 14 (l := DF2) (d := ⟨fun K => He.ga K "_law_monic", "_law_monic", "_law_monic", TOP 113⟩) rfl rfl
theorem d__law_common (T : Tx K mg) : FnX K "_law_common" "_law_common" (TOP 114) (He.ga K "_law_common") := T.def_ 2 15 (l := DF2) (d := ⟨fun K => He.ga K "_law_common", "_law_common", "_law_common", TOP 114⟩) rfl rfl
theorem d__law_slope (T : Tx K mg) : FnX K "_law_slope" "_law_slope" (TOP 115) (He.ga K "_law_slope") := T.def_ 2 16 (l := DF2) (d := ⟨fun K => He.ga K "_law_slope", "_law_slope", "_law_slope", TOP 115⟩) rfl rfl
theorem d__law_is_free (T : Tx K mg) : FnX K "_law_is_free" "_law_is_free" (TOP 116) (He.ga K "_law_is_free") := T.def_ 2 17 (l := DF2) (d := ⟨fun K => He.ga K "_law_is_free", "_law_is_free", "_law_is_free", TOP 116⟩) rfl rfl
theorem d__law_row_drawn (T : Tx K mg) : FnX K "_law_row_drawn" "_law_row_drawn" (TOP 117) (He.ga K "_law_row_drawn") := T.def_ 2 18 (l := DF2) (d := ⟨fun K => He.ga K "_law_row_drawn", "_law_row_drawn", "_law_row_drawn", TOP 117⟩) rfl rfl
theorem d__law_free_drawn (T : Tx K mg) : FnX K "_law_free_drawn" "_law_free_drawn" (TOP 118) (He.ga K "_law_free_drawn") := T.def_ 2 19 (l := DF2) (d := ⟨fun K => He.ga K "_law_free_drawn", "_law_free_drawn", "_law_free_drawn", TOP 118⟩) rfl rfl
theorem d__law_free_made (T : Tx K mg) : FnX K "_law_free_made" "_law_free_made" (TOP 119) (He.ga K "_law_free_made") := T.def_ 2 20 (l := DF2) (d := ⟨fun K => He.ga K "_law_free_made", "_law_free_made", "_law_free_made", TOP 119⟩) rfl rfl
theorem d__law_sheet_of (T : Tx K mg) : FnX K "_law_sheet_of" "_law_sheet_of" (TOP 120) (He.ga K "_law_sheet_of") := T.def_ 2 21 (l := DF2) (d := ⟨fun K => He.ga K "_law_sheet_of", "_law_sheet_of", "_law_sheet_of", TOP 120⟩) rfl rfl
theorem d__law_even_curve (T : Tx K mg) : FnX K "_law_even_curve" "_law_even_curve" (TOP 121) (He.ga K "_law_even_curve") := T.def_ 2 22 (l := DF2) (d := ⟨fun K => He.ga K "_law_even_curve", "_law_even_curve", "_law_even_curve", TOP 121⟩) rfl rfl
theorem d__law_root_row (T : Tx K mg) : FnX K "_law_root_row" "_law_root_row" (TOP 122) (He.ga K "_law_root_row") := T.def_ 2 23 (l := DF2) (d := ⟨fun K => He.ga K "_law_root_row", "_law_root_row", "_law_root_row", TOP 122⟩) rfl rfl
theorem d__law_round_rows (T : Tx K mg) : FnX K "_law_round_rows" "_law_round_rows" (TOP 123) (He.ga K "_law_round_rows") := T.def_ 2 24 (l := DF2) (d := ⟨fun K => He.ga K "_law_round_rows", "_law_round_rows", "_law_round_rows", TOP 123⟩) rfl rfl
theorem d__law_norm_of (T : Tx K mg) : FnX K "_law_norm_of" "_law_norm_of" (TOP 124) (He.ga K "_law_norm_of") := T.def_ 3 0 (l := DF3) (d := ⟨fun K => He.ga K "_law_norm_of", "_law_norm_of", "_law_norm_of", TOP 124⟩) rfl rfl
theorem d__law_scaled (T : Tx K mg) : FnX K "_law_scaled" "_law_scaled" (TOP 125) (He.ga K "_law_scaled") := T.def_ 3 1 (l := DF3) (d := ⟨fun K => He.ga K "_law_scaled", "_law_scaled", "_law_scaled", TOP 125⟩) rfl rfl
theorem d__law_product_pair (T : Tx K mg) : FnX K "_law_product_pair" "_law_product_pair" (TOP 126) (He.ga K "_law_product_pair") := T.def_ 3 2 (l := DF3) (d := ⟨fun K => He.ga K "_law_product_pair", "_law_product_pair", "_law_product_pair", TOP 126⟩) rfl rfl
theorem d__law_own_power (T : Tx K mg) : FnX K "_law_own_power" "_law_own_power" (TOP 127) (He.ga K "_law_own_power") := T.def_ 3 3 (l := DF3) (d := ⟨fun K => He.ga K "_law_own_power", "_law_own_power", "_law_own_power", TOP 127⟩) rfl rfl
theorem d__law_plain (T : Tx K mg) : FnX K "_law_plain" "_law_plain" (TOP 128) (He.ga K "_law_plain") := T.def_ 3 4 (l := DF3) (d := ⟨fun K => He.ga K "_law_plain", "_law_plain", "_law_plain", TOP 128⟩) rfl rfl
theorem d__law_near (T : Tx K mg) : FnX K "_law_near" "_law_near" (TOP 129) (He.ga K "_law_near") := T.def_ 3 5 (l := DF3) (d := ⟨fun K => He.ga K "_law_near", "_law_near", "_law_near", TOP 129⟩) rfl rfl
theorem d__law_is_own (T : Tx K mg) : FnX K "_law_is_own" "_law_is_own" (TOP 130) (He.ga K "_law_is_own") := T.def_ 3 6 (l := DF3) (d := ⟨fun K => He.ga K "_law_is_own", "_law_is_own", "_law_is_own", TOP 130⟩) rfl rfl
theorem d__law_right (T : Tx K mg) : FnX K "_law_right" "_law_right" (TOP 131) (He.ga K "_law_right") := T.def_ 3 7 (l := DF3) (d := ⟨fun K => He.ga K "_law_right", "_law_right", "_law_right", TOP 131⟩) rfl rfl
theorem d_is_whole_numbers (T : Tx K mg) : FnX K "is_whole" "is_whole" (TOP 14) (He.ga K "is_whole_numbers") := T.def_ 3 8 (l := DF3) (d := ⟨fun K => He.ga K "is_whole_numbers", "is_whole", "is_whole", TOP 14⟩) rfl rfl
theorem d_is_whole_chains (T : Tx K mg) : FnX K "is_whole" "is_whole" (TOP 95) (He.ga K "is_whole_chains") := T.def_ 3 9 (l := DF3) (d := ⟨fun K => He.ga K "is_whole_chains", "is_whole", "is_whole", TOP 95⟩) rfl rfl
theorem d_law (T : Tx K mg) : FnX K "law" "law" (TOP 132) (He.ga K "law") := T.def_ 3 10 (l := DF3) (d := ⟨fun K => He.ga K "law", "law", "law", TOP 132⟩) rfl rfl
theorem d_Entries___init__ (T : Tx K mg) : FnX K "__init__" "Entries.__init__" (MTH 30 1) (He.ma K (He.ga K "Entries") "__init__") := T.def_ 3 11 (l := DF3) (d := ⟨fun K => He.ma K (He.ga K "Entries") "__init__", "__init__", "Entries.__init__", MTH 30 1⟩) rfl rfl
theorem d_Poly___init__ (T : Tx K mg) : FnX K "__init__" "Poly.__init__" (MTH 46 1) (He.ma K (He.ga K "Poly") "__init__") := T.def_ 3 12 (l := DF3) (d := ⟨fun K => He.ma K (He.ga K "Poly") "__init__", "__init__", "Poly.__init__", MTH 46 1⟩) rfl rfl
theorem d_Poly___add__ (T : Tx K mg) : FnX K "__add__" "Poly.__add__" (MTH 46 10) (He.ma K (He.ga K "Poly") "__add__") := T.def_ 3 13 (l := DF3) (d := ⟨fun K => He.ma K (He.ga K "Poly") "__add__", "__add__", "Poly.__add__", MTH 46 10⟩) rfl rfl
theorem d_Poly___sub__ (T : Tx K mg) : FnX K "__sub__" "Poly.__sub__" (MTH 46 11) (He.ma K (He.ga K "Poly") "__sub__") := T.def_ 3 14 (l := DF3) (d := ⟨fun K => He.ma K (He.ga K "Poly") "__sub__", "__sub__", "Poly.__sub__", MTH 46 11⟩) rfl rfl
theorem d_Poly___mul__ (T : Tx K mg) : FnX K "__mul__" "Poly.__mul__" (MTH 46 12) (He.ma K (He.ga K "Poly") "__mul__") := T.def_ 3 15 (l := DF3) (d := ⟨fun K => He.ma K (He.ga K "Poly") "__mul__", "__mul__", "Poly.__mul__", MTH 46 12⟩) rfl rfl
theorem d_Poly___floordiv__ (T : Tx K mg) : FnX K "__floordiv__" "Poly.__floordiv__" (MTH 46 13) (He.ma K (He.ga K "Poly") "__floordiv__") := T.def_ 3 16 (l := DF3) (d := ⟨fun K => He.ma K (He.ga K "Poly") "__floordiv__", "__floordiv__", "Poly.__floordiv__", MTH 46 13⟩) rfl rfl
theorem d_Poly___mod__ (T : Tx K mg) : FnX K "__mod__" "Poly.__mod__" (MTH 46 14) (He.ma K (He.ga K "Poly") "__mod__") := T.def_ 3 17 (l := DF3) (d := ⟨fun K => He.ma K (He.ga K "Poly") "__mod__", "__mod__", "Poly.__mod__", MTH 46 14⟩) rfl rfl
theorem d_Poly___neg__ (T : Tx K mg) : FnX K "__neg__" "Poly.__neg__" (MTH 46 15) (He.ma K (He.ga K "Poly") "__neg__") := T.def_ 3 18 (l := DF3) (d := ⟨fun K => He.ma K (He.ga K "Poly") "__neg__", "__neg__", "Poly.__neg__", MTH 46 15⟩) rfl rfl
theorem d_Poly___call__ (T : Tx K mg) : FnX K "__call__" "Poly.__call__" (MTH 46 16) (He.ma K (He.ga K "Poly") "__call__") := T.def_ 3 19 (l := DF3) (d := ⟨fun K => He.ma K (He.ga K "Poly") "__call__", "__call__", "Poly.__call__", MTH 46 16⟩) rfl rfl
theorem d_Poly___getitem__ (T : Tx K mg) : FnX K "__getitem__" "Poly.__getitem__" (MTH 46 17) (He.ma K (He.ga K "Poly") "__getitem__") := T.def_ 3 20 (l := DF3) (d := ⟨fun K => He.ma K (He.ga K "Poly") "__getitem__", "__getitem__", "Poly.__getitem__", MTH 46 17⟩) rfl rfl
theorem d_Poly_monic (T : Tx K mg) : FnX K "monic" "Poly.monic" (MTH 46 19) (He.ma K (He.ga K "Poly") "monic") := T.def_ 3 21 (l := DF3) (d := ⟨fun K => He.ma K (He.ga K "Poly") "monic", "monic", "Poly.monic", MTH 46 19⟩) rfl rfl
theorem d_Poly_scaled (T : Tx K mg) : FnX K "scaled" "Poly.scaled" (MTH 46 20) (He.ma K (He.ga K "Poly") "scaled") := T.def_ 3 22 (l := DF3) (d := ⟨fun K => He.ma K (He.ga K "Poly") "scaled", "scaled", "Poly.scaled", MTH 46 20⟩) rfl rfl
theorem d_Poly_derivative (T : Tx K mg) : FnX K "derivative" "Poly.derivative" (MTH 46 21) (He.ma K (He.ga K "Poly") "derivative") := T.def_ 3 23 (l := DF3) (d := ⟨fun K => He.ma K (He.ga K "Poly") "derivative", "derivative", "Poly.derivative", MTH 46 21⟩) rfl rfl
theorem d_Poly___eq__ (T : Tx K mg) : FnX K "__eq__" "Poly.__eq__" (MTH 46 25) (He.ma K (He.ga K "Poly") "__eq__") := T.def_ 3 24 (l := DF3) (d := ⟨fun K => He.ma K (He.ga K "Poly") "__eq__", "__eq__", "Poly.__eq__", MTH 46 25⟩) rfl rfl
theorem d_Poly___str__ (T : Tx K mg) : FnX K "__str__" "Poly.__str__" (MTH 46 26) (He.ma K (He.ga K "Poly") "__str__") := T.def_ 4 0 (l := DF4) (d := ⟨fun K => He.ma K (He.ga K "Poly") "__str__", "__str__", "Poly.__str__", MTH 46 26⟩) rfl rfl
theorem d_Poly_prime (T : Tx K mg) : FnX K "prime" "Poly.prime" (MTH 46 3) (gAd K (He.ga K "Poly") "prime") := T.def_ 4 1 (l := DF4) (d := ⟨fun K => gAd K (He.ga K "Poly") "prime", "prime", "Poly.prime", MTH 46 3⟩) rfl rfl
theorem d_Poly_entries (T : Tx K mg) : FnX K "entries" "Poly.entries" (MTH 46 4) (gAd K (He.ga K "Poly") "entries") := T.def_ 4 2 (l := DF4) (d := ⟨fun K => gAd K (He.ga K "Poly") "entries", "entries", "Poly.entries", MTH 46 4⟩) rfl rfl
theorem d_Poly_degree (T : Tx K mg) : FnX K "degree" "Poly.degree" (MTH 46 5) (gAd K (He.ga K "Poly") "degree") := T.def_ 4 3 (l := DF4) (d := ⟨fun K => gAd K (He.ga K "Poly") "degree", "degree", "Poly.degree", MTH 46 5⟩) rfl rfl
theorem d_Poly_lead (T : Tx K mg) : FnX K "lead" "Poly.lead" (MTH 46 6) (gAd K (He.ga K "Poly") "lead") := T.def_ 4 4 (l := DF4) (d := ⟨fun K => gAd K (He.ga K "Poly") "lead", "lead", "Poly.lead", MTH 46 6⟩) rfl rfl
theorem d_Poly_is_zero (T : Tx K mg) : FnX K "is_zero" "Poly.is_zero" (MTH 46 8) (gAd K (He.ga K "Poly") "is_zero") := T.def_ 4 5 (l := DF4) (d := ⟨fun K => gAd K (He.ga K "Poly") "is_zero", "is_zero", "Poly.is_zero", MTH 46 8⟩) rfl rfl
theorem d_Curve___init__ (T : Tx K mg) : FnX K "__init__" "Curve.__init__" (MTH 65 1) (He.ma K (He.ga K "Curve") "__init__") := T.def_ 4 6 (l := DF4) (d := ⟨fun K => He.ma K (He.ga K "Curve") "__init__", "__init__", "Curve.__init__", MTH 65 1⟩) rfl rfl
theorem d_Curve___eq__ (T : Tx K mg) : FnX K "__eq__" "Curve.__eq__" (MTH 65 13) (He.ma K (He.ga K "Curve") "__eq__") := T.def_ 4 7 (l := DF4) (d := ⟨fun K => He.ma K (He.ga K "Curve") "__eq__", "__eq__", "Curve.__eq__", MTH 65 13⟩) rfl rfl
theorem d_Curve_f (T : Tx K mg) : FnX K "f" "Curve.f" (MTH 65 3) (gAd K (He.ga K "Curve") "f") := T.def_ 4 8 (l := DF4) (d := ⟨fun K => gAd K (He.ga K "Curve") "f", "f", "Curve.f", MTH 65 3⟩) rfl rfl
theorem d_Curve_prime (T : Tx K mg) : FnX K "prime" "Curve.prime" (MTH 65 4) (gAd K (He.ga K "Curve") "prime") := T.def_ 4 9 (l := DF4) (d := ⟨fun K => gAd K (He.ga K "Curve") "prime", "prime", "Curve.prime", MTH 65 4⟩) rfl rfl
theorem d_Curve_kind (T : Tx K mg) : FnX K "kind" "Curve.kind" (MTH 65 5) (gAd K (He.ga K "Curve") "kind") := T.def_ 4 10 (l := DF4) (d := ⟨fun K => gAd K (He.ga K "Curve") "kind", "kind", "Curve.kind", MTH 65 5⟩) rfl rfl
theorem d_Curve_genus (T : Tx K mg) : FnX K "genus" "Curve.genus" (MTH 65 6) (gAd K (He.ga K "Curve") "genus") := T.def_ 4 11 (l := DF4) (d := ⟨fun K => gAd K (He.ga K "Curve") "genus", "genus", "Curve.genus", MTH 65 6⟩) rfl rfl
theorem d_Curve_rims (T : Tx K mg) : FnX K "rims" "Curve.rims" (MTH 65 7) (gAd K (He.ga K "Curve") "rims") := T.def_ 4 12 (l := DF4) (d := ⟨fun K => gAd K (He.ga K "Curve") "rims", "rims", "Curve.rims", MTH 65 7⟩) rfl rfl
theorem d_Function___init__ (T : Tx K mg) : FnX K "__init__" "Function.__init__" (MTH 75 1) (He.ma K (He.ga K "Function") "__init__") := T.def_ 4 13 (l := DF4) (d := ⟨fun K => He.ma K (He.ga K "Function") "__init__", "__init__", "Function.__init__", MTH 75 1⟩) rfl rfl
theorem d_Function___add__ (T : Tx K mg) : FnX K "__add__" "Function.__add__" (MTH 75 14) (He.ma K (He.ga K "Function") "__add__") := T.def_ 4 14 (l := DF4) (d := ⟨fun K => He.ma K (He.ga K "Function") "__add__", "__add__", "Function.__add__", MTH 75 14⟩) rfl rfl
theorem d_Function___eq__ (T : Tx K mg) : FnX K "__eq__" "Function.__eq__" (MTH 75 18) (He.ma K (He.ga K "Function") "__eq__") := T.def_ 4 15 (l := DF4) (d := ⟨fun K => He.ma K (He.ga K "Function") "__eq__", "__eq__", "Function.__eq__", MTH 75 18⟩) rfl rfl
theorem d_Function_curve (T : Tx K mg) : FnX K "curve" "Function.curve" (MTH 75 2) (gAd K (He.ga K "Function") "curve") := T.def_ 4 16 (l := DF4) (d := ⟨fun K => gAd K (He.ga K "Function") "curve", "curve", "Function.curve", MTH 75 2⟩) rfl rfl
theorem d_Function_a (T : Tx K mg) : FnX K "a" "Function.a" (MTH 75 3) (gAd K (He.ga K "Function") "a") := T.def_ 4 17 (l := DF4) (d := ⟨fun K => gAd K (He.ga K "Function") "a", "a", "Function.a", MTH 75 3⟩) rfl rfl
theorem d_Function_b (T : Tx K mg) : FnX K "b" "Function.b" (MTH 75 4) (gAd K (He.ga K "Function") "b") := T.def_ 4 18 (l := DF4) (d := ⟨fun K => gAd K (He.ga K "Function") "b", "b", "Function.b", MTH 75 4⟩) rfl rfl
theorem d_Function_c (T : Tx K mg) : FnX K "c" "Function.c" (MTH 75 5) (gAd K (He.ga K "Function") "c") := T.def_ 4 19 (l := DF4) (d := ⟨fun K => gAd K (He.ga K "Function") "c", "c", "Function.c", MTH 75 5⟩) rfl rfl
theorem d_Steps___init__ (T : Tx K mg) : FnX K "__init__" "Steps.__init__" (MTH 85 1) (He.ma K (He.ga K "Steps") "__init__") := T.def_ 4 20 (l := DF4) (d := ⟨fun K => He.ma K (He.ga K "Steps") "__init__", "__init__", "Steps.__init__", MTH 85 1⟩) rfl rfl
theorem d_Steps_go_on (T : Tx K mg) : FnX K "go_on" "Steps.go_on" (MTH 85 2) (He.ma K (He.ga K "Steps") "go_on") := T.def_ 4 21 (l := DF4) (d := ⟨fun K => He.ma K (He.ga K "Steps") "go_on", "go_on", "Steps.go_on", MTH 85 2⟩) rfl rfl
theorem d_Steps_is_round (T : Tx K mg) : FnX K "is_round" "Steps.is_round" (MTH 85 3) (He.ma K (He.ga K "Steps") "is_round") := T.def_ 4 22 (l := DF4) (d := ⟨fun K => He.ma K (He.ga K "Steps") "is_round", "is_round", "Steps.is_round", MTH 85 3⟩) rfl rfl
theorem d_Round___init__ (T : Tx K mg) : FnX K "__init__" "Round.__init__" (MTH 86 1) (He.ma K (He.ga K "Round") "__init__") := T.def_ 4 23 (l := DF4) (d := ⟨fun K => He.ma K (He.ga K "Round") "__init__", "__init__", "Round.__init__", MTH 86 1⟩) rfl rfl
theorem d_Round_top (T : Tx K mg) : FnX K "top" "Round.top" (MTH 86 2) (He.ma K (He.ga K "Round") "top") := T.def_ 4 24 (l := DF4) (d := ⟨fun K => He.ma K (He.ga K "Round") "top", "top", "Round.top", MTH 86 2⟩) rfl rfl
theorem d_Round_unit_norm (T : Tx K mg) : FnX K "unit_norm" "Round.unit_norm" (MTH 86 3) (He.ma K (He.ga K "Round") "unit_norm") := T.def_ 5 0 (l := DF5) (d := ⟨fun K => He.ma K (He.ga K "Round") "unit_norm", "unit_norm", "Round.unit_norm", MTH 86 3⟩) rfl rfl
theorem Tx.bf (T : Tx K mg) : BF mg := fun x hx => by
  unfold isB at hx
  rw [List.any_eq_true] at hx
  obtain ⟨y, hy, e⟩ := hx
  rw [eq_of_beq e]
  simp only [List.mem_cons, List.not_mem_nil, or_false] at hy
  rcases hy with rfl | rfl | rfl | rfl | rfl | rfl | rfl | rfl | rfl | rfl | rfl | rfl | rfl | rfl | rfl | rfl | rfl | rfl
  · exact fr_len T
  · exact fr_range T
  · exact fr_tuple T
  · exact fr_list T
  · exact fr_int T
  · exact fr_str T
  · exact fr_max T
  · exact fr_min T
  · exact fr_abs T
  · exact fr_sum T
  · exact fr_all T
  · exact fr_any T
  · exact fr_isinstance T
  · exact fr_enumerate T
  · exact fr_zip T
  · exact fr_repr T
  · exact fr_bool T
  · exact fr_ValueError T
end
end DL

namespace DL
open PySem PySem.Spec PyProof.Rows L2
/-! ### more of the text: the readers -/
theorem creadB_ok {K : PySem.W.Frag} {C : Addr} (h : PySem.W.readsIn K C (.type "type") = true) : ClX.CRead K C (.type "type") := by
  refine ⟨h, ?_⟩
  unfold PySem.W.readsIn at h
  simp only [Bool.and_eq_true, beq_iff_eq] at h
  obtain ⟨⟨⟨⟨_, h2⟩, h3⟩, _⟩, _⟩ := h
  show (PySem.W.typeIn K (.ref C)).bind _ = _
  rw [h2]
  exact h3
structure Tr (K : PySem.W.Frag) (mg : Str → Option Value) : Prop where
  tx : Tx K mg
  fa : ∀ f ∈ FAr, f K = true
  df : ∀ d ∈ DFr, d.ok K = true ∧ fnX K (d.ad K) = d.val
section
variable {K : PySem.W.Frag} {mg : Str → Option Value}
theorem Tr.cr_Poly (T : Tr K mg) : ClX.CRead K (He.ga K "Poly") (.type "type") := creadB_ok (T.fa _ (List.mem_of_getElem? (i := 0) rfl))
theorem Tr.cr_Curve (T : Tr K mg) : ClX.CRead K (He.ga K "Curve") (.type "type") := creadB_ok (T.fa _ (List.mem_of_getElem? (i := 1) rfl))
theorem Tr.cm_Poly (T : Tr K mg) : ClX.CMet K (He.ga K "Poly") (.type "type") "read" (He.ma K (He.ga K "Poly") "read") (rdA K "Poly") := let ⟨a, b⟩ := He.ba (T.fa _ (List.mem_of_getElem? (i := 2) rfl)); He5.cmet_of a b
theorem Tr.cm_Curve (T : Tr K mg) : ClX.CMet K (He.ga K "Curve") (.type "type") "read" (He.ma K (He.ga K "Curve") "read") (rdA K "Curve") := let ⟨a, b⟩ := He.ba (T.fa _ (List.mem_of_getElem? (i := 3) rfl)); He5.cmet_of a b
theorem Tr.g_law (T : Tr K mg) : mg "law" = some (.ref (He.ga K "law")) := let ⟨_, X, G⟩ := T.tx.at_; He.glo_ok X G (T.fa _ (List.mem_of_getElem? (i := 4) rfl))
theorem Tr.d_Poly (T : Tr K mg) : FnX K "read" "Poly.read" (MTH 46 2) (rdA K "Poly") := let z := T.df _ (List.mem_of_getElem? (i := 0) rfl); DX.fn z.2 z.1
theorem Tr.d_Curve (T : Tr K mg) : FnX K "read" "Curve.read" (MTH 65 2) (rdA K "Curve") := let z := T.df _ (List.mem_of_getElem? (i := 1) rfl); DX.fn z.2 z.1
end
end DL

namespace DL
open PySem PySem.Spec PyProof.Rows L2
theorem tr_of {K : PySem.W.Frag} {h : Heap} {mg : Str → Option Value} (Xk : K.In h) (G : h.Ns mainGlobals mg) (c : obsX K = valX) : Tr K mg := by
  have c1 : obF K = true := congrArg (fun z : AlX => z.1) c
  have c2 : obD DFsA K = vaD DFsA := congrArg (fun z : AlX => z.2.1) c
  have c3 : obD DFsB K = vaD DFsB := congrArg (fun z : AlX => z.2.2) c
  have key : ∀ {ds : List (List DX)}, obD ds K = vaD ds → ∀ l ∈ ds, ∀ d ∈ l, d.ok K = true ∧ fnX K (d.ad K) = d.val := fun {ds} q l hl d hd => by
    have q1 : (ds.all fun l => l.all fun d => d.ok K) = true := congrArg (fun z : AlD => z.1) q
    have q2 : (ds.flatMap fun l => l.map fun d => fnX K (d.ad K)) = ds.flatMap fun l => l.map DX.val := congrArg (fun z : AlD => z.2) q
    refine ⟨List.all_eq_true.mp (List.all_eq_true.mp q1 l hl) d hd, ?_⟩
    have q3 : ∀ {ds : List (List DX)}, (ds.flatMap fun l => l.map fun d => fnX K (d.ad K)) = (ds.flatMap fun l => l.map DX.val) → ∀ l ∈ ds, (l.map fun d => fnX K (d.ad K)) = l.map DX.val := fun {ds} => by
      induction ds with
      | nil => intro _ l hl; cases hl
      | cons a r ih =>
        intro e l hl
        rw [List.flatMap_cons, List.flatMap_cons] at e
        obtain ⟨e1, e2⟩ := List.append_inj e (by simp)
        rcases List.mem_cons.mp hl with rfl | hl
        · exact e1
        · exact ih e2 l hl
    exact List.map_inj_left.mp (q3 q2 l hl) d hd
  have hF : ∀ l ∈ FAs ++ [FAr], ∀ f ∈ l, f K = true := fun l hl f hf => List.all_eq_true.mp (List.all_eq_true.mp c1 l hl) f hf
  refine ⟨⟨⟨h, Xk, G⟩, fun l hl => hF l (List.mem_append_left _ hl), fun l hl d hd => ?_⟩, hF FAr (List.mem_append_right _ List.mem_cons_self), key c3 DFr (List.mem_append_right _ List.mem_cons_self)⟩
  have hs : l ∈ DFsA ++ DFs.drop 3 := by
    unfold DFsA
    rw [List.take_append_drop]
    exact hl
  rcases List.mem_append.mp hs with q | q
  · exact key c2 l q d hd
  · exact key c3 l (List.mem_append_left _ q) d hd
end DL

namespace DL
open PySem PySem.Spec PyProof.Rows L2
/-! ### short forms for the functions' proofs -/
def scB (N ps : List Str) (sc : Scope) : Bool := sc.kind == .function && (!sc.isCoroutine && (!sc.isGenerator && (decide N.Nodup && (N.take ps.length == ps && ((ps.all fun x => sc.names.lookup x == some .local || sc.names.lookup x == some .cell) && sc.names.all fun y => y.2 != .free)))))
theorem sc_of {N ps : List Str} {sc : Scope} (h : scB N ps sc = true) : FnScope N ps sc := by
  unfold scB at h
  simp only [Bool.and_eq_true, Bool.not_eq_true', beq_iff_eq, decide_eq_true_eq, List.all_eq_true, Bool.or_eq_true, bne_iff_ne, ne_eq] at h
  obtain ⟨h1, h2, h3, h4, h5, h6, h7⟩ := h
  exact ⟨h1, h2, h3, h4, h5, h6, h7⟩
theorem kp_of {K : PySem.W.Frag} {x q : Str} {st : Stmt} {f : Addr} (F : FnX K x q st f) : PySem.W.keepIn K (.ref f) = true := let ⟨_, h⟩ := F; h.kp
section
variable {X : Cx} {δ : List Sl} {a b c e o : Expr} {es : List Expr} {pos apos p : Pos} {R : Dt → Prop} {x m q : Str} {st : Stmt} {ds : List Dt} {d : Dt}
variable {P : Program} {w : World} {K : PySem.W.Frag} {mg : Str → Option Value} {base : Heap} {k n : Nat} {N : List Str} {sc : Scope} {f C pr : Addr} {S : Sd}
theorem v_fn (cg : Cg P w K mg base k N sc X) (F : FnA P w K mg base n f S) (D : FnX K m q st f) (hm : mg x = some (.ref f)) (ha : EvA X δ (e :: es) (are_ ds)) (h : S ds R) (hn : n ≤ k := by decide) (hg : Gl X x := by first | rfl | exact Cg.gl (by assumption) rfl)
    (hd : (x == ("__debug__" : Str)) = false := by decide) (he : starEach (e :: es) X.env = (false, eval e X.env) :: starEach es X.env := by rfl) (hpl : (backTo pos (starEach es X.env)).any (·.1) = false := by rfl) : EvE X δ (.Call (.Name x p) (e :: es) [] pos) R :=
  v_call cg F hn hm (kp_of D) ha (fun _ e => e ▸ h) hg hd he hpl
theorem v_gi {i : Int} (cg : Cg P w K mg base k N sc X) (h : ∃ t, mg x = some (.int i t)) (hg : Gl X x := by first | rfl | exact Cg.gl (by assumption) rfl) (hd : (x == ("__debug__" : Str)) = false := by decide) : EvD X δ (.Name x pos) (.int i) := v_gint (by rw [cg.glo]; exact h) hg hd
theorem v_gs {i : Str} (cg : Cg P w K mg base k N sc X) (h : ∃ t, mg x = some (.str i t)) (hg : Gl X x := by first | rfl | exact Cg.gl (by assumption) rfl) (hd : (x == ("__debug__" : Str)) = false := by decide) : EvD X δ (.Name x pos) (.str i) := v_gstr (by rw [cg.glo]; exact h) hg hd
theorem v_gr {C : Addr} (cg : Cg P w K mg base k N sc X) (h : mg x = some (.ref C)) (hg : Gl X x := by first | rfl | exact Cg.gl (by assumption) rfl) (hd : (x == ("__debug__" : Str)) = false := by decide) : EvD X δ (.Name x pos) (.val (.ref C)) := v_gref (by rw [cg.glo]; exact h) hg hd
variable {p2 : Pos} {da : Dt} {fl : Str} {g : Addr}
/-- isinstance: of a built-in type's value, a built-in's name or an own class; of an own instance -/
theorem v_it {T U : String} {q : Bool} (cg : Cg P w K mg base k N sc X) (kb : PySem.W.kitOne K (.type T) (.type U) = some q) (ha : EvD X δ a da) (hT : tyD da = some T := by rfl) (hv : bootBuiltins x = some (.type U) := by decide +kernel) (hx : X.mg x = none := by first | assumption | exact Cg.bf (by assumption) (by assumption) rfl) (hm : X.mg "isinstance" = none := by first | assumption | exact Cg.bf (by assumption) (by assumption) rfl)
    (hg : Gl X "isinstance" := by first | rfl | exact Cg.gl (by assumption) rfl) (hgx : Gl X x := by first | rfl | exact Cg.gl (by assumption) rfl) (hn : x ≠ "__name__" := by decide) (hd : (x == ("__debug__" : Str)) = false := by decide)
    (he : starEach [a, (.Name x p2)] X.env = (false, eval a X.env) :: starEach [(.Name x p2)] X.env := by rfl) (he2 : starEach [(.Name x p2)] X.env = (false, eval (.Name x p2) X.env) :: starEach [] X.env := by rfl) (hpl : (backTo pos (starEach [(.Name x p2)] X.env)).any (·.1) = false := by rfl) :
    EvD X δ (.Call (.Name "isinstance" p) [a, .Name x p2] [] pos) (.bl q) := v_isT (by rw [cg.fr]; exact kb) hT hv ha hx hm hg hgx hn hd he he2 hpl
theorem v_ito {T : String} {q : Bool} {T2 : Addr} (cg : Cg P w K mg base k N sc X) (kb : PySem.W.kitOne K (.type T) (.ref T2) = some q) (hmx : mg x = some (.ref T2)) (ha : EvD X δ a da) (hT : tyD da = some T := by rfl) (hm : X.mg "isinstance" = none := by first | assumption | exact Cg.bf (by assumption) (by assumption) rfl)
    (hg : Gl X "isinstance" := by first | rfl | exact Cg.gl (by assumption) rfl) (hgx : Gl X x := by first | rfl | exact Cg.gl (by assumption) rfl) (hd : (x == ("__debug__" : Str)) = false := by decide)
    (he : starEach [a, (.Name x p2)] X.env = (false, eval a X.env) :: starEach [(.Name x p2)] X.env := by rfl) (he2 : starEach [(.Name x p2)] X.env = (false, eval (.Name x p2) X.env) :: starEach [] X.env := by rfl) (hpl : (backTo pos (starEach [(.Name x p2)] X.env)).any (·.1) = false := by rfl) :
    EvD X δ (.Call (.Name "isinstance" p) [a, .Name x p2] [] pos) (.bl q) := v_isTO (by rw [cg.fr]; exact kb) hT ha (v_gr cg hmx hgx hd) hm hg he he2 hpl
theorem v_io {q : Bool} {T2 : Addr} (cg : Cg P w K mg base k N sc X) (sc1 : SlX.SCls K C) (si : SlX.SIsi K C) (kb : PySem.W.kitOne K (.ref C) (.ref T2) = some q) (hmx : mg x = some (.ref T2)) (ia : InsD K C da) (ha : EvD X δ a da) (hm : X.mg "isinstance" = none := by first | assumption | exact Cg.bf (by assumption) (by assumption) rfl)
    (hg : Gl X "isinstance" := by first | rfl | exact Cg.gl (by assumption) rfl) (hgx : Gl X x := by first | rfl | exact Cg.gl (by assumption) rfl) (hd : (x == ("__debug__" : Str)) = false := by decide)
    (he : starEach [a, (.Name x p2)] X.env = (false, eval a X.env) :: starEach [(.Name x p2)] X.env := by rfl) (he2 : starEach [(.Name x p2)] X.env = (false, eval (.Name x p2) X.env) :: starEach [] X.env := by rfl) (hpl : (backTo pos (starEach [(.Name x p2)] X.env)).any (·.1) = false := by rfl) :
    EvD X δ (.Call (.Name "isinstance" p) [a, .Name x p2] [] pos) (.bl q) := by
  have fr := cg.fr
  exact v_isiO (by rw [fr]; exact sc1) (by rw [fr]; exact si) (by rw [fr]; exact kb) (by rw [fr]; exact ia) ha (v_gr cg hmx hgx hd) hm hg he he2 hpl
/-- o.f, a slot -/
theorem v_sl {jj : Nat} (cg : Cg P w K mg base k N sc X) (sc1 : SlX.SCls K C) (sl : SlX.Slot1 K C fl pr jj) (fd : FldD K C jj d R) (ha : EvD X δ a d) (hb : attributeBase a fl X.env (eval a X.env) = eval a X.env := by rfl) : EvE X δ (.Attribute a fl pos) R := by
  have fr := cg.fr
  exact v_slot (by rw [fr]; exact sc1) (by rw [fr]; exact sl) (by rw [fr]; exact fd) ha hb
/-- a property -/
theorem v_pr (cg : Cg P w K mg base k N sc X) (sc1 : SlX.SCls K C) (pp : PropOf K C fl pr g) (F : FnA P w K mg base n g S) (ii : InsD K C d) (h : S [d] R) (ha : EvD X δ a d) (hn : n + 1 ≤ k := by decide) (hb : attributeBase a fl X.env (eval a X.env) = eval a X.env := by rfl) : EvE X δ (.Attribute a fl pos) R := v_prop cg sc1 pp F hn ii h ha hb
end
end DL

namespace DL
open PySem PySem.Spec PyProof.Rows L2
section
variable {P : Program} {w : World} {K : PySem.W.Frag} {mg : Str → Option Value} {base : Heap}
/-! ### numbers -/
def S_whole : Sd := fun ds R => ∃ i, ds = [.int i] ∧ R (.bl true)
theorem p_is_whole (T : Tx K mg) : FnA P w K mg base 1 (He.ga K "is_whole_numbers") S_whole :=
  fn_ok (N := ["value"]) (ps := ["value"]) (d_is_whole_numbers T) (sc_of (by decide +kernel)) (fun _ _ _ _ _ _ us hl => match us, hl with | [_], _ => rfl) (fun _ _ ⟨_, e, _⟩ => e ▸ rfl) fun X cg hf ds R ⟨i, e, hR⟩ => by
    subst e
    have bf := T.bf
    exact r_retD (v_and (k := true) (v_it cg (kb_int_int T) (v_var 0)) fun _ => v_one (v_not (v_it cg (kb_int_bool T) (v_var 0)))) hR
def S_integer : Sd := fun ds R => ∃ i : Int, ds = [.int i] ∧ R (.bl (decide (-(10 ^ 60) < i) && decide (i < 10 ^ 60)))
theorem p_is_integer (T : Tx K mg) : FnA P w K mg base 2 (He.ga K "is_integer") S_integer :=
  fn_ok (N := ["value"]) (ps := ["value"]) (d_is_integer T) (sc_of (by decide +kernel)) (fun _ _ _ _ _ _ us hl => match us, hl with | [_], _ => rfl) (fun _ _ ⟨_, e, _⟩ => e ▸ rfl) fun X cg hf ds R ⟨i, e, hR⟩ => by
    subst e
    have bf := T.bf
    exact r_retD (v_and (k := true) (v_fn cg (p_is_whole T) (d_is_whole_numbers T) (g_is_whole_numbers T) (a_d (v_var 0) a_nil) ⟨i, rfl, rfl⟩) fun _ => v_one (v_chain op_lt op_lt (v_neg (v_gi cg (g_GREAT T))) (v_var 0) (v_gi cg (g_GREAT T)))) hR
def S_prime : Sd := fun ds R => ∃ i : Int, ds = [.int i] ∧ R (.bl (decide (i ∈ primesL)))
theorem p_is_prime (T : Tx K mg) : FnA P w K mg base 2 (He.ga K "is_prime") S_prime :=
  fn_ok (N := ["value"]) (ps := ["value"]) (d_is_prime T) (sc_of (by decide +kernel)) (fun _ _ _ _ _ _ us hl => match us, hl with | [_], _ => rfl) (fun _ _ ⟨_, e, _⟩ => e ▸ rfl) fun X cg hf ds R ⟨i, e, hR⟩ => by
    subst e
    have bf := T.bf
    exact r_retD (v_and (k := true) (v_fn cg (p_is_whole T) (d_is_whole_numbers T) (g_is_whole_numbers T) (a_d (v_var 0) a_nil) ⟨i, rfl, rfl⟩) fun _ => v_one (v_inT (v_var 0) (v_gtup cg (g_PRIMES T) (t_PRIMES T)))) hR
theorem Pr.mem {p : Int} (h : Pr p) : p ∈ primesL := by rcases h with rfl | rfl | rfl <;> decide
def S_reqp : Sd := fun ds R => ∃ p : Int, ds = [.int p] ∧ Pr p ∧ R .non
theorem p_require_prime (T : Tx K mg) : FnA P w K mg base 3 (He.ga K "require_prime") S_reqp :=
  fn_ok (N := ["value"]) (ps := ["value"]) (d_require_prime T) (sc_of (by decide +kernel)) (fun _ _ _ _ _ _ us hl => match us, hl with | [_], _ => rfl) (fun _ _ ⟨_, e, _⟩ => e ▸ rfl) fun X cg hf ds R ⟨i, e, hp, hR⟩ => by
    subst e
    have bf := T.bf
    refine r_if (k := false) ((t_not (t_val (v_fn cg (p_is_prime T) (d_is_prime T) (g_is_prime T) (a_d (v_var 0) a_nil) ⟨i, rfl, rfl⟩))).is ?_) (fun h => nomatch h) fun _ => r_nil (r_nil hR)
    rw [decide_eq_true hp.mem]
    rfl
def S_residue : Sd := fun ds R => ∃ p i : Int, ds = [.int p, .int i] ∧ R (.bl (decide (0 ≤ i) && decide (i < p)))
theorem p_is_residue_of (T : Tx K mg) : FnA P w K mg base 2 (He.ga K "is_residue_of") S_residue :=
  fn_ok (N := ["prime", "value"]) (ps := ["prime", "value"]) (d_is_residue_of T) (sc_of (by decide +kernel)) (fun _ _ _ _ _ _ us hl => match us, hl with | [_, _], _ => rfl) (fun _ _ ⟨_, _, e, _⟩ => e ▸ rfl) fun X cg hf ds R ⟨p, i, e, hR⟩ => by
    subst e
    have bf := T.bf
    exact r_retD (v_and (k := true) (v_fn cg (p_is_whole T) (d_is_whole_numbers T) (g_is_whole_numbers T) (a_d (v_var 1) a_nil) ⟨i, rfl, rfl⟩) fun _ => v_one (v_chain op_le op_lt v_int (v_var 1) (v_var 0))) hR
theorem range62 {j : Int} (h : 0 ≤ j) (h2 : j ≤ 1000000) : -(2 ^ 62) ≤ j ∧ j < 2 ^ 62 := by
  have e : (2 : Int) ^ 62 = 4611686018427387904 := by decide
  rw [e]
  omega
theorem range62n {j : Int} (h : -1000000 ≤ j) (h2 : j ≤ 1000000) : -(2 ^ 62) ≤ j ∧ j < 2 ^ 62 := by
  have e : (2 : Int) ^ 62 = 4611686018427387904 := by decide
  rw [e]
  omega
theorem rangeD_l {lo c : Int} {n : Nat} : (rangeD lo c n).length = n := rangeD_len
theorem at0 {r : List Int} (h : r ≠ []) : atI (rowD r) 0 = some (.int (getI r 0)) := by
  have hl : 0 < r.length := List.length_pos_iff.mpr h
  exact atI_row (by decide) (by omega)
def S_inverse : Sd := fun ds R => ∃ p n : Int, ds = [.int p, .int n] ∧ Pr p ∧ 0 < n ∧ n < p ∧ R (.int (invI p n))
theorem p_inverse_of (T : Tx K mg) : FnA P w K mg base 1 (He.ga K "inverse_of") S_inverse :=
  fn_ok (N := ["prime", "number", "one"]) (ps := ["prime", "number"]) (d_inverse_of T) (sc_of (by decide +kernel)) (fun _ _ _ _ _ _ us hl => match us, hl with | [_, _], _ => rfl) (fun _ _ ⟨_, _, e, _⟩ => e ▸ rfl) fun X cg hf ds R ⟨p, n, e, hp, h0, h1, hR⟩ => by
    subst e
    have bf := T.bf
    have a1 := hp.pos
    have a2 := hp.le
    refine r_retD (v_item .l (v_lc cg (lc_filter (xs := rangeD 1 1 (p - 1).toNat) (gd := Dt.int) (f := Dt.int) (p := fun o => decide (o * n % p = 1)) [("one", 2)] cg (by rw [rangeD_l]; omega) (it_range2 v_int (v_var 0) ⟨(range62n (by decide) (by decide)).1, (range62n (by decide) (by decide)).2, range62 (by omega) (by omega)⟩)
      fun XB cb a ha => ⟨tg_name 2 cb, t_eqI (v_mod a1 (v_mul (.inr (small64 (by omega) (by omega))) (v_var 2) (v_var 1)) (v_var 0)) v_int, fun _ => v_var 2⟩)) v_int (at0 (inv_ok hp h0 h1).1)) hR
theorem p_poly_inverse (T : Tx K mg) : FnA P w K mg base 1 (He.ga K "poly_inverse") S_inverse :=
  fn_ok (N := ["prime", "number", "one"]) (ps := ["prime", "number"]) (d_poly_inverse T) (sc_of (by decide +kernel)) (fun _ _ _ _ _ _ us hl => match us, hl with | [_, _], _ => rfl) (fun _ _ ⟨_, _, e, _⟩ => e ▸ rfl) fun X cg hf ds R ⟨p, n, e, hp, h0, h1, hR⟩ => by
    subst e
    have bf := T.bf
    have a1 := hp.pos
    have a2 := hp.le
    refine r_retD (v_item .l (v_lc cg (lc_filter (xs := rangeD 1 1 (p - 1).toNat) (gd := Dt.int) (f := Dt.int) (p := fun o => decide (o * n % p = 1)) [("one", 2)] cg (by rw [rangeD_l]; omega) (it_range2 v_int (v_var 0) ⟨(range62n (by decide) (by decide)).1, (range62n (by decide) (by decide)).2, range62 (by omega) (by omega)⟩)
      fun XB cb a ha => ⟨tg_name 2 cb, t_eqI (v_mod a1 (v_mul (.inr (small64 (by omega) (by omega))) (v_var 2) (v_var 1)) (v_var 0)) v_int, fun _ => v_var 2⟩)) v_int (at0 (inv_ok hp h0 h1).1)) hR
theorem p_law_inverse (T : Tx K mg) : FnA P w K mg base 1 (He.ga K "_law_inverse") S_inverse :=
  fn_ok (N := ["_law_prime", "_law_number", "_law_one"]) (ps := ["_law_prime", "_law_number"]) (d__law_inverse T) (sc_of (by decide +kernel)) (fun _ _ _ _ _ _ us hl => match us, hl with | [_, _], _ => rfl) (fun _ _ ⟨_, _, e, _⟩ => e ▸ rfl) fun X cg hf ds R ⟨p, n, e, hp, h0, h1, hR⟩ => by
    subst e
    have bf := T.bf
    have a1 := hp.pos
    have a2 := hp.le
    refine r_retD (v_item .l (v_lc cg (lc_filter (xs := rangeD 1 1 (p - 1).toNat) (gd := Dt.int) (f := Dt.int) (p := fun o => decide (o * n % p = 1)) [("_law_one", 2)] cg (by rw [rangeD_l]; omega) (it_range2 v_int (v_var 0) ⟨(range62n (by decide) (by decide)).1, (range62n (by decide) (by decide)).2, range62 (by omega) (by omega)⟩)
      fun XB cb a ha => ⟨tg_name 2 cb, t_eqI (v_mod a1 (v_int1 (v_mul (.inr (small64 (by omega) (by omega))) (v_var 2) (v_var 1))) (v_var 0)) v_int, fun _ => v_var 2⟩)) v_int (at0 (inv_ok hp h0 h1).1)) hR
theorem p_residue_inverse (T : Tx K mg) : FnA P w K mg base 4 (He.ga K "residue_inverse") S_inverse :=
  fn_ok (N := ["prime", "number"]) (ps := ["prime", "number"]) (d_residue_inverse T) (sc_of (by decide +kernel)) (fun _ _ _ _ _ _ us hl => match us, hl with | [_, _], _ => rfl) (fun _ _ ⟨_, _, e, _⟩ => e ▸ rfl) fun X cg hf ds R ⟨p, n, e, hp, h0, h1, hR⟩ => by
    subst e
    have bf := T.bf
    have a1 : decide (0 ≤ n) = true := decide_eq_true (by omega)
    have a2 : decide (n < p) = true := decide_eq_true (by omega)
    have a3 : decide (n = 0) = false := decide_eq_false (by omega)
    refine r_expr (R := fun _ => True) (v_fn cg (p_require_prime T) (d_require_prime T) (g_require_prime T) (a_d (v_var 0) a_nil) ⟨p, rfl, hp, trivial⟩) ?_
    refine r_if (k := false) ((t_w (w_or (t_not (t_val (v_fn cg (p_is_residue_of T) (d_is_residue_of T) (g_is_residue_of T) (a_d (v_var 0) (a_d (v_var 1) a_nil)) ⟨p, n, rfl, rfl⟩))) fun _ => w_or1 (t_eqI (v_var 1) v_int))).is (by rw [a1, a2, a3]; rfl)) (fun h => nomatch h) fun _ => r_nil ?_
    refine r_ret ?_
    exact v_fn cg (p_inverse_of T) (d_inverse_of T) (g_inverse_of T) (a_d (v_var 0) (a_d (v_var 1) a_nil)) ⟨p, n, rfl, hp, h0, h1, hR⟩
end
end DL

namespace DL
open PySem PySem.Spec PyProof.Rows L2
section
variable {P : Program} {w : World} {K : PySem.W.Frag} {mg : Str → Option Value} {base : Heap}
/-! ### rows -/
def S_trim : Sd := fun ds R => ∃ r, ds = [.lst (rowD r)] ∧ r.length ≤ 10000 ∧ R (.tup (rowD (trimI r)))
theorem atI_nat {r : List Int} {m : Nat} (h : m < r.length) : atI (rowD r) (m : Int) = some (.int (getI r m)) := atI_row (by omega) (by omega)
theorem p_poly_row (T : Tx K mg) : FnA P w K mg base 1 (He.ga K "poly_row") S_trim :=
  fn_ok (N := ["row", "size"]) (ps := ["row"]) (d_poly_row T) (sc_of (by decide +kernel)) (fun _ _ _ _ _ _ us hl => match us, hl with | [_], _ => rfl) (fun _ _ ⟨_, e, _⟩ => e ▸ rfl) fun X cg hf ds R ⟨r, e, hl, hR⟩ => by
    subst e
    have bf := T.bf
    refine r_setD 1 cg (v_len .l (v_var 0)) ?_
    refine r_while cg (fun m δ' => δ' = [.im (.lst (rowD r)), .im (.int m)] ∧ m ≤ r.length ∧ trimI (r.take m) = trimI r) r.length ⟨by simp [startS], Nat.le_refl _, by simp⟩ fun m δ' ⟨e, h1, h2⟩ => ?_
    subst e
    match m, h1, h2 with
    | 0, h1, h2 =>
      refine ⟨false, t_w ((w_and (m := true) (t_gt (v_var 1) v_int) fun h => absurd (of_decide_eq_true h) (by decide)).is (by decide)), (fun hb => by cases hb), fun _ => ?_⟩
      refine r_retD (v_tuple .l (v_slL (v_var 0) o_none (o_some (v_var 1)))) ?_
      rw [cutD_to (Nat.zero_le _)]
      rw [← h2] at hR
      exact hR
    | m + 1, h1, h2 =>
      have g : decide ((0 : Int) < ((m + 1 : Nat) : Int)) = true := decide_eq_true (by omega)
      refine ⟨_, t_w ((w_and (t_gt (v_var 1) v_int) fun _ => w_and1 (t_eqI (v_item .l (v_var 0) (v_sub (v_var 1) v_int) (d := .int (getI r m)) ?_) v_int)).is (m := decide (getI r m = 0)) (by rw [g]; rfl)), fun hb => ?_, fun hb => ?_⟩
      · rw [show ((m + 1 : Nat) : Int) - 1 = (m : Int) by omega]
        exact atI_nat h1
      · refine r_augS 1 cg rfl v_int (r_nil ⟨m, Nat.lt_succ_self _, ?_, by omega, ?_⟩)
        · rw [show ((m + 1 : Nat) : Int) - 1 = (m : Int) by omega]
          rfl
        · rw [← trim_take h1 (of_decide_eq_true hb)]
          exact h2
      · refine r_retD (v_tuple .l (v_slL (v_var 0) o_none (o_some (v_var 1)))) ?_
        rw [cutD_to h1, ← trim_stop h1 (of_decide_eq_false hb), h2]
        exact hR
/-! ### what an object's fields make of it -/
inductive Imp (K : PySem.W.Frag) : List PV → List (Option Dt) → Prop where
  | nil : Imp K [] []
  | cons {Q : PV} {d : Dt} {Ps : List PV} {fs : List (Option Dt)} (h : ∀ x H, rep K d x H → Q x H) (r : Imp K Ps fs) : Imp K (Q :: Ps) (some d :: fs)
theorem Imp.get {Ps : List PV} {fs : List (Option Dt)} (h : Imp K Ps fs) : ∀ {j : Nat} {Q : PV}, Ps[j]? = some Q → ∃ d, fs[j]? = some (some d) ∧ ∀ x H, rep K d x H → Q x H := by
  induction h with
  | nil => intro j Q e; simp at e
  | @cons Q0 d Ps fs h r ih =>
    intro j Q e
    cases j with
    | zero =>
      simp at e
      subst e
      exact ⟨d, rfl, h⟩
    | succ j => exact ih (by simpa using e)
theorem seal_obj {C a dx : Addr} {Ps : List PV} {fs : List (Option Dt)} {vals : List (Option V)} {H : Hp} (h : Imp K Ps fs) (h1 : H a = some (SlX.SlO a C dx vals)) (h2 : H dx = some (.xd [])) (h3 : ∀ (j : Nat) (d : Dt), fs[j]? = some (some d) → ∃ v, vals[j]? = some (some v) ∧ rep K d v H) : objAt C Ps (.ref a) H :=
  ⟨a, dx, vals, rfl, h1, h2, fun j Q e => by
    obtain ⟨d, hd, k⟩ := h.get e
    obtain ⟨v, hv, r⟩ := h3 j d hd
    exact ⟨v, hv, k v H r⟩⟩
theorem seal_ent {r : List Int} : Seal K (cE K) [some (.tup (rowD r))] (.ent r) := fun a dx vals H h1 h2 h3 => rep_ent.mpr (seal_obj (.cons (fun _ _ h => rep0_row h) .nil) h1 h2 h3)
theorem seal_poly {p : Int} {r : List Int} {n : Int} {t : Str} (hw : Wf p r) (ht : t.length ≤ 16 * r.length + 16) : Seal K (cP K) [some (.tup (rowD r)), some (.int (r.getLastD 0)), some (.int n), some (.int p), some (.str t)] (.poly p r) := fun a dx vals H h1 h2 h3 =>
  rep_poly.mpr ⟨hw, n, t, ht, seal_obj (.cons (fun _ _ h => rep0_row h) (.cons (fun _ _ h => rep_int.mp h) (.cons (fun _ _ h => rep_int.mp h) (.cons (fun _ _ h => rep_int.mp h) (.cons (fun _ _ h => rep_str.mp h) .nil))))) h1 h2 h3⟩

/-! ### Entries -/
def I_ent : Si := fun ds RF => ∃ r, ds = [.tup (rowD r)] ∧ RF [some (.tup (rowD r))]
theorem p_Entries_init (T : Tx K mg) : FnR P w K mg base CX0 1 (He.ma K (cE K) "__init__") (spI K (cE K) I_ent) :=
  fnI_ok (N := ["self", "row"]) (ps := ["self", "row"]) (d_Entries___init__ T) (sc_of (by decide +kernel)) (fun _ _ _ _ _ _ us hl => match us, hl with | [_, _], _ => rfl) (fun _ _ ⟨_, e, _⟩ => e ▸ rfl) fun X cg hf ds RF ⟨r, e, hR⟩ a dx => by
    subst e
    have bf := T.bf
    have fr := cg.fr
    refine r_fld 0 (C := (cE K, a, dx)) (by rw [fr]; exact sc_Entries T) (by rw [fr]; exact sl_Entries_own_row T) (v_var 1) rfl fun d hd => ?_
    cases hd
    exact r_nil ⟨_, _, rfl, hR⟩

/-! ### rows: number, opposite, sum -/
def S_num : Sd := fun ds R => ∃ p r, ds = [.int p, .tup (rowD r)] ∧ 0 < p ∧ p ≤ 1000 ∧ R (.int (numR p r))
theorem row_rev {r : List Int} : (rowD r).reverse = r.reverse.map Dt.int := by unfold rowD; rw [List.map_reverse]
theorem p_poly_number (T : Tx K mg) : FnA P w K mg base 1 (He.ga K "poly_number") S_num :=
  fn_ok (N := ["prime", "row", "found", "entry"]) (ps := ["prime", "row"]) (d_poly_number T) (sc_of (by decide +kernel)) (fun _ _ _ _ _ _ us hl => match us, hl with | [_, _], _ => rfl) (fun _ _ ⟨_, _, e, _⟩ => e ▸ rfl) fun X cg hf ds R ⟨p, r, e, h0, h1, hR⟩ => by
    subst e
    have bf := T.bf
    refine r_setD 2 cg v_int ?_
    refine r_forF (xs := r.reverse) (g := Dt.int) cg (by rw [← row_rev]; exact it_tup (v_revT (v_var 1))) (fun f => [.im (.int p), .im (.tup (rowD r)), .im (.int f), .no]) (fun f e => f * p + e) 0 (.eq (.eq (.eq (.eq .nil)))) (fun n a ha => ⟨tg_name 3 cg, ?_⟩) ?_
    · exact r_setD 2 cg (v_add (v_mul (.inr (small64 (by omega) (by omega))) (v_var 2) (v_var 0)) (v_var 3)) (r_nil (Le.eq (Le.eq (Le.eq (Le.no Le.nil)))))
    · exact r_retD (v_var 2) hR
def S_opp : Sd := fun ds R => ∃ p r, ds = [.int p, .tup (rowD r)] ∧ 0 < p ∧ r.length ≤ 10000 ∧ R (.lst (rowD (oppL p r)))
theorem p_poly_opposite (T : Tx K mg) : FnA P w K mg base 1 (He.ga K "poly_opposite") S_opp :=
  fn_ok (N := ["prime", "row", "entry"]) (ps := ["prime", "row"]) (d_poly_opposite T) (sc_of (by decide +kernel)) (fun _ _ _ _ _ _ us hl => match us, hl with | [_, _], _ => rfl) (fun _ _ ⟨_, _, e, _⟩ => e ▸ rfl) fun X cg hf ds R ⟨p, r, e, h0, h1, hR⟩ => by
    subst e
    have bf := T.bf
    refine r_ret ((v_lc cg (lc_map (xs := r) (gd := Dt.int) (f := fun e => .int ((p - e) % p)) [("entry", 2)] cg (by omega) (it_tup (v_var 1)) fun XB cb a ha => ⟨tg_name 2 cb, v_mod h0 (v_sub (v_var 0) (v_var 2)) (v_var 0)⟩)).mono fun d hd => ?_)
    cases hd
    show R _
    have e : r.map (fun e => Dt.int ((p - e) % p)) = rowD (oppL p r) := by unfold rowD oppL; rw [List.map_map]; rfl
    rw [e]
    exact hR
end
end DL

namespace DL
open PySem PySem.Spec PyProof.Rows L2
section
variable {X : Cx} {δ δ' : List Sl} {a b c e o tg : Expr} {es : List Expr} {pos apos p p2 p3 : Pos} {R : Dt → Prop} {ds : List Dt} {d : Dt} {D : DEnds} {rest : List Stmt} {is : List Nat}
variable {P : Program} {w : World} {K : PySem.W.Frag} {mg : Str → Option Value} {base : Heap} {k : Nat} {N : List Str} {sc : Scope}
/-- target = e, the target of any form -/
theorem r_asgT (he : EvD X δ e d) (ht : TgD X tg is δ d δ') (kk : RunS X δ' rest D) (hs : swapsWithSole [tg] e pos.line X.env = pure false := by rfl) (hw : swappedStores [tg] e X.env = pure none := by rfl) (h1 : (assignEach [tg] X.env).map (·.2) = [assign tg X.env] := by rfl) : RunS X δ (.Assign [tg] e pos :: rest) D :=
  r_of (ps_asg pe_tev pg_tpg hs hw h1) fun M0 M H0 σ H g => tev_mono (he M0 M H0 σ H g) fun v H1 ⟨e1, d', ed, q⟩ => by
    cases ed
    exact tpg_mono (ht M0 M H0 σ H1 v (g.grow e1) q) fun σ2 H2 ⟨vs, es, eh, g2⟩ => kk M0 M H0 σ2 H2 (by rw [eh] at g2 ⊢; exact g2)
/-- a list or a tuple -/
inductive LT : Dt → List Dt → Prop where
  | l {ds : List Dt} : LT (.lst ds) ds
  | t {ds : List Dt} : LT (.tup ds) ds
theorem LT.sq (h : LT d ds) : Sq d ds := by
  cases h with
  | l => exact .l
  | t => exact .t
/-- list(a[lo:hi]) -/
theorem v_lsl {lo hi : Option Expr} {l h : Option Int} (q : LT d ds) (ha : EvD X δ a d) (hl : EvO X δ lo l) (hh : EvO X δ hi h) (hm : X.mg "list" = none := by first | assumption | exact Cg.bf (by assumption) (by assumption) rfl) (hg : Gl X "list" := by first | rfl | exact Cg.gl (by assumption) rfl)
    (he : starEach [(.Subscript a (.Slice lo hi none p2) p3)] X.env = (false, eval (.Subscript a (.Slice lo hi none p2) p3) X.env) :: starEach [] X.env := by rfl) (hpl : (backTo pos (starEach [] X.env)).any (·.1) = false := by rfl) :
    EvD X δ (.Call (.Name "list" p) [.Subscript a (.Slice lo hi none p2) p3] [] pos) (.lst (cutD ds l h)) := by
  cases q with
  | l => exact v_L (l_list .l (v_slL ha hl hh) hm hg he hpl)
  | t => exact v_L (l_list .t (v_slT ha hl hh) hm hg he hpl)
end
section
variable {P : Program} {w : World} {K : PySem.W.Frag} {mg : Str → Option Value} {base : Heap}
theorem lst_map {α : Type} {xs : List α} {f : α → Int} : xs.map (fun a => Dt.int (f a)) = rowD (xs.map f) := by unfold rowD; rw [List.map_map]; rfl
theorem row_app {r s : List Int} : rowD r ++ rowD s = rowD (r ++ s) := by unfold rowD; rw [List.map_append]
theorem zip_len {a b : List Int} : (a.zip b).length ≤ a.length := by rw [List.length_zip]; exact Nat.min_le_left _ _
def S_sum : Sd := fun ds R => ∃ p a b db, ds = [.int p, .tup (rowD a), db] ∧ LT db (rowD b) ∧ 0 < p ∧ a.length ≤ 10000 ∧ b.length ≤ 10000 ∧ R (.lst (rowD (sumL p a b)))
abbrev N_sum : List Str := ["prime", "one", "other", "longer", "shorter", "found", "first", "second"]
/-- the part behind the choice -/
theorem b_sum (T : Tx K mg) {X : Cx} (cg : Cg P w K mg base 0 N_sum (SC 41) X) {p : Int} {lo sh : List Int} {dl dsh x1 x2 : Dt} (hl : LT dl (rowD lo)) (hs : LT dsh (rowD sh)) (h0 : 0 < p) (z1 : lo.length ≤ 10000) (z2 : sh.length ≤ lo.length) {R : Dt → Prop} (hR : R (.lst (rowD (addZ p lo sh)))) :
    RunS X [.im (.int p), .im x1, .im x2, .im dl, .im dsh, .no, .no, .no] ((BD 41).drop 1) { rt := R, nx := fun _ => R .non } := by
  have bf := T.bf
  refine r_setLc 5 cg (lc_map (xs := lo.zip sh) (gd := fun q => .tup [.int q.1, .int q.2]) (f := fun q => .int ((q.1 + q.2) % p)) [("first", 6), ("second", 7)] cg (Nat.le_trans zip_len (by omega)) (by rw [← zipD_row]; exact it_zip hl.sq hs.sq (v_var 3) (v_var 4)) fun XB cb q hq =>
    ⟨tg_tup cb (tp_cons 6 cb (tp_cons 7 cb tp_nil)), v_mod h0 (v_add (v_var 6) (v_var 7)) (v_var 0)⟩) ?_
  refine r_freeze 5 rfl ?_
  refine r_ret ((v_addL ?_ (v_var 5) (v_lsl hl (v_var 3) (o_some (v_len hs.sq (v_var 4))) o_none)).mono fun d hd => ?_)
  · rw [List.length_map]
    unfold cutD
    simp only [List.length_take, List.length_drop, List.length_map]
    have := zip_len (a := lo) (b := sh)
    omega
  · cases hd
    have e1 : ((rowD sh).length : Int) = ((sh.length : Nat) : Int) := by unfold rowD; rw [List.length_map]
    rw [e1, cutD_from z2, lst_map, row_app]
    exact hR
theorem p_poly_sum (T : Tx K mg) : FnA P w K mg base 1 (He.ga K "poly_sum") S_sum :=
  fn_ok (N := N_sum) (ps := ["prime", "one", "other"]) (d_poly_sum T) (sc_of (by decide +kernel)) (fun _ _ _ _ _ _ us hl => match us, hl with | [_, _, _], _ => rfl) (fun _ _ ⟨_, _, _, _, e, _⟩ => e ▸ rfl) fun X cg hf ds R ⟨p, a, b, db, e, hb, h0, z1, z2, hR⟩ => by
    subst e
    have bf := T.bf
    by_cases hab : b.length ≤ a.length
    · refine r_asgT (d := .tup [.tup (rowD a), db]) (v_ifExp (k := true) ((t_ge (v_len .t (v_var 1)) (v_len hb.sq (v_var 2))).is ?_) (fun _ => v_tupD (a_d (v_var 1) (a_d (v_var 2) a_nil))) fun h => nomatch h) (tg_tup cg (tp_cons 3 cg (tp_cons 4 cg tp_nil))) ?_
      · unfold rowD
        rw [List.length_map, List.length_map]
        exact decide_eq_true (by omega)
      · refine b_sum T cg .t hb h0 z1 hab ?_
        unfold sumL at hR
        rw [if_pos hab] at hR
        exact hR
    · refine r_asgT (d := .tup [db, .tup (rowD a)]) (v_ifExp (k := false) ((t_ge (v_len .t (v_var 1)) (v_len hb.sq (v_var 2))).is ?_) (fun h => nomatch h) fun _ => v_tupD (a_d (v_var 2) (a_d (v_var 1) a_nil))) (tg_tup cg (tp_cons 3 cg (tp_cons 4 cg tp_nil))) ?_
      · unfold rowD
        rw [List.length_map, List.length_map]
        exact decide_eq_false (by omega)
      · refine b_sum T cg hb .t h0 z2 (by omega) ?_
        unfold sumL at hR
        rw [if_neg hab] at hR
        exact hR
end
end DL

namespace DL
open PySem PySem.Spec PyProof.Rows L2
section
variable {P : Program} {w : World} {K : PySem.W.Frag} {mg : Str → Option Value} {base : Heap}
theorem ixN_nat {n m : Nat} {i : Int} (e : i = (m : Int)) (h : m < n) : ixN n i = some m := by
  subst e
  unfold ixN
  rw [if_pos (by omega), if_pos (by omega), Int.toNat_natCast]
theorem atI_is {r : List Int} {m : Nat} {i : Int} (e : i = (m : Int)) (h : m < r.length) : atI (rowD r) i = some (.int (getI r m)) := by
  subst e
  exact atI_nat h
theorem row_len {r : List Int} : (rowD r).length = r.length := List.length_map ..
theorem row_set {r : List Int} {m : Nat} {x : Int} : (rowD r).set m (.int x) = rowD (r.set m x) := by
  unfold rowD
  rw [List.map_set]
theorem zipIdx_at {a : List Int} {n : Nat} {q : Int × Nat} (h : a.zipIdx[n]? = some q) : q.2 = n ∧ n < a.length ∧ a[n]? = some q.1 := by
  rw [List.getElem?_zipIdx] at h
  cases e : a[n]? with
  | none =>
    rw [e] at h
    cases h
  | some x =>
    rw [e] at h
    simp at h
    subst h
    exact ⟨by simp, (List.getElem?_eq_some_iff.mp e).1, rfl⟩
theorem Res.small {p : Int} {r : List Int} (h : Res p r) (hp : p ≤ 1000) {x : Int} (hx : x ∈ r) : -(2 ^ 64) < x ∧ x < 2 ^ 64 := by
  have := h x hx
  exact small64 (by omega) (by omega)
abbrev N_prod : List Str := ["prime", "one", "other", "found", "place", "at", "first", "spot", "second", "entry"]
def S_prod : Sd := fun ds R => ∃ p a b, ds = [.int p, .tup (rowD a), .tup (rowD b)] ∧ 0 < p ∧ p ≤ 1000 ∧ Res p a ∧ Res p b ∧ a.length ≤ 10000 ∧ b.length ≤ 10000 ∧ R (.lst (rowD (prodL p a b)))
theorem rep_zero {n : Int} {c : Int} : (rowD (rangeD 0 1 n.toNat)).map (fun _ => Dt.int 0) = rowD (List.replicate n.toNat 0) := by
  unfold rowD
  rw [List.map_map, List.map_replicate]
  apply List.ext_getElem?
  intro i
  rw [List.getElem?_map, List.getElem?_replicate]
  by_cases h : i < n.toNat
  · rw [if_pos h, rangeD_get h]
    rfl
  · rw [if_neg h, List.getElem?_eq_none (by rw [rangeD_len]; omega)]
    rfl
theorem p_poly_product (T : Tx K mg) : FnA P w K mg base 1 (He.ga K "poly_product") S_prod :=
  fn_ok (N := N_prod) (ps := ["prime", "one", "other"]) (d_poly_product T) (sc_of (by decide +kernel)) (fun _ _ _ _ _ _ us hl => match us, hl with | [_, _, _], _ => rfl) (fun _ _ ⟨_, _, _, e, _⟩ => e ▸ rfl) fun X cg hf ds R ⟨p, a, b, e, h0, h1, ra, rb, z1, z2, hR⟩ => by
    subst e
    have bf := T.bf
    have em : (if ((rowD a).length : Int) + ((rowD b).length : Int) - 1 > 0 then ((rowD a).length : Int) + ((rowD b).length : Int) - 1 else 0).toNat = a.length + b.length - 1 := by
      rw [row_len, row_len]
      split <;> omega
    refine r_setLc 3 cg (lc_map (xs := rangeD 0 1 (if ((rowD a).length : Int) + ((rowD b).length : Int) - 1 > 0 then ((rowD a).length : Int) + ((rowD b).length : Int) - 1 else 0).toNat) (gd := Dt.int) (f := fun _ => .int 0) [("place", 4)] cg (by rw [rangeD_len, em]; omega)
      (it_range1 (v_max2 cg v_int (v_sub (v_add (v_len .t (v_var 1)) (v_len .t (v_var 2))) v_int)) (by
        rw [row_len, row_len]
        refine range62 ?_ ?_ <;> split <;> omega)) fun XB cb q hq => ⟨tg_name 4 cb, v_int⟩) ?_
    have ez : (rangeD 0 1 (if ((rowD a).length : Int) + ((rowD b).length : Int) - 1 > 0 then ((rowD a).length : Int) + ((rowD b).length : Int) - 1 else 0).toNat).map (fun _ => Dt.int 0) = rowD (List.replicate (a.length + b.length - 1) 0) := by
      rw [em]
      unfold rowD
      rw [List.map_replicate]
      apply List.ext_getElem?
      intro i
      rw [List.getElem?_map, List.getElem?_replicate]
      by_cases h : i < a.length + b.length - 1
      · rw [if_pos h, rangeD_get h]
        rfl
      · rw [if_neg h, List.getElem?_eq_none (by rw [rangeD_len]; omega)]
        rfl
    rw [ez]
    let st : List Int → List Sl := fun f => [.im (.int p), .im (.tup (rowD a)), .im (.tup (rowD b)), .mu (rowD f), .no, .no, .no, .no, .no, .no]
    refine r_forF (xs := a.zipIdx) (g := fun q => .tup [.int (q.2 : Nat), .int q.1]) cg (by rw [← enumD_row]; exact it_enum .t (v_var 1)) st (fun f q => if q.1 = 0 then f else rowAdd f q.2 q.1 b) (List.replicate (a.length + b.length - 1) 0) Le.rfl (fun n q hq => ⟨tg_tup cg (tp_cons 5 cg (tp_cons 6 cg tp_nil)), ?_⟩) ?_
    · obtain ⟨e2, hn, hx⟩ := zipIdx_at hq
      generalize hf0 : (a.zipIdx.take n).foldl (fun f q => if q.1 = 0 then f else rowAdd f q.2 q.1 b) (List.replicate (a.length + b.length - 1) 0) = f0
      have l0 : f0.length = a.length + b.length - 1 := by rw [← hf0, prodR_len, List.length_replicate]
      by_cases hz : q.1 = 0
      · refine r_if (k := false) ((t_neI (v_var 6) v_int).is (by rw [decide_eq_true hz]; rfl)) (fun h => nomatch h) fun _ => r_nil (r_nil ?_)
        rw [if_pos hz]
        exact .eq (.eq (.eq (.eq (.no (.no (.no (.no (.no (.no .nil)))))))))
      · refine r_if (k := true) ((t_neI (v_var 6) v_int).is (by rw [decide_eq_false hz]; rfl)) (fun _ => ?_) fun h => nomatch h
        rw [if_neg hz]
        let st2 : List Int → List Sl := fun f => [.im (.int p), .im (.tup (rowD a)), .im (.tup (rowD b)), .mu (rowD f), .no, .im (.int (q.2 : Nat)), .im (.int q.1), .no, .no, .no]
        refine r_forF (xs := b.zipIdx) (g := fun q => .tup [.int (q.2 : Nat), .int q.1]) cg (by rw [← enumD_row]; exact it_enum .t (v_var 2)) st2 (fun f r => f.set (q.2 + r.2) (getI f (q.2 + r.2) + q.1 * r.1)) f0 Le.rfl (fun m r hr => ⟨tg_tup cg (tp_cons 7 cg (tp_cons 8 cg tp_nil)), ?_⟩) ?_
        · obtain ⟨e3, hm, hy⟩ := zipIdx_at hr
          generalize hf1 : (b.zipIdx.take m).foldl (fun f r => f.set (q.2 + r.2) (getI f (q.2 + r.2) + q.1 * r.1)) f0 = f1
          have l1 : f1.length = a.length + b.length - 1 := by rw [← hf1, rowAdd_len, l0]
          have hb : q.2 + r.2 < f1.length := by omega
          refine r_put 3 (R := is_ (.int (getI f1 (q.2 + r.2) + q.1 * r.1))) (v_add (v_itemM 3 (v_add (v_var 5) (v_var 7)) rfl (atI_is (m := q.2 + r.2) (by omega) hb)) (v_mul (.inl (ra.small h1 (List.mem_of_getElem? hx))) (v_var 6) (v_var 8))) (v_add (v_var 5) (v_var 7)) rfl (ixN_nat (m := q.2 + r.2) (by omega) (by rw [row_len]; exact hb)) fun d hd => r_nil ?_
          cases hd
          rw [row_set]
          exact .eq (.eq (.eq (.eq (.eq (.eq (.eq (.no (.no (.no .nil)))))))))
        · exact r_nil (r_nil (.eq (.eq (.eq (.eq (.eq (.no (.no (.eq (.eq (.eq .nil)))))))))))
    · refine r_freeze 3 rfl ?_
      refine r_ret ((v_lc cg (lc_map (xs := prodR a b) (gd := Dt.int) (f := fun e => .int (e % p)) [("entry", 9)] cg (by unfold prodR; rw [prodR_len, List.length_replicate]; omega) (it_list (v_var 3)) fun XB cb q hq => ⟨tg_name 9 cb, v_mod h0 (v_var 9) (v_var 0)⟩)).mono fun d hd => ?_)
      cases hd
      rw [lst_map]
      exact hR
end
end DL

namespace DL
open PySem PySem.Spec PyProof.Rows L2
section
variable {P : Program} {w : World} {K : PySem.W.Frag} {mg : Str → Option Value} {base : Heap}
abbrev N_div : List Str := ["prime", "one", "other", "rest", "size", "inverse", "found", "place", "at", "factor", "spot", "entry"]
def S_div : Sd := fun ds R => ∃ p a b, ds = [.int p, .tup (rowD a), .tup (rowD b)] ∧ Pr p ∧ Res p a ∧ Res p b ∧ b ≠ [] ∧ b.getLastD 0 ≠ 0 ∧ a.length ≤ 10000 ∧ b.length ≤ 10000 ∧ R (.tup [.lst (rowD (divR p a b).2), .lst (rowD ((divR p a b).1.take (b.length - 1)))])
theorem last_mem {b : List Int} (h : b ≠ []) : b.getLastD 0 ∈ b := by
  rw [List.getLastD_eq_getLast?, List.getLast?_eq_some_getLast h]
  exact List.getLast_mem h
theorem zeros {n : Nat} {i : Int} (h : i.toNat = n) : (rangeD 0 1 i.toNat).map (fun _ => Dt.int 0) = rowD (List.replicate n 0) := by
  rw [h]
  unfold rowD
  rw [List.map_replicate]
  apply List.ext_getElem?
  intro i
  rw [List.getElem?_map, List.getElem?_replicate]
  by_cases h : i < n
  · rw [if_pos h, rangeD_get h]
    rfl
  · rw [if_neg h, List.getElem?_eq_none (by rw [rangeD_len]; omega)]
    rfl
theorem range_at {lo : Int} {n m : Nat} {i : Int} (h : (rangeD lo (-1) n)[m]? = some i) : m < n ∧ i = lo - m := by
  have hl := (List.getElem?_eq_some_iff.mp h).1
  rw [rangeD_len] at hl
  rw [rangeD_get hl] at h
  have := Option.some.inj h
  omega
theorem cutD_upto {r : List Int} {n : Nat} : cutD (rowD r) none (some (n : Int)) = rowD (r.take n) := by
  by_cases h : n ≤ r.length
  · exact cutD_to h
  · rw [cutD_row, sIx_nat, Nat.min_eq_right (by omega)]
    show rowD ((r.drop 0).take (r.length - 0)) = _
    rw [Nat.sub_zero, List.drop_zero, List.take_of_length_le (Nat.le_refl _), List.take_of_length_le (by omega)]
theorem IterD.is {X : Cx} {δ : List Sl} {tg e : Expr} {ds ds' : List Dt} (h : IterD X δ tg e ds) (q : ds = ds') : IterD X δ tg e ds' := q ▸ h
theorem p_poly_divided (T : Tx K mg) : FnA P w K mg base 2 (He.ga K "poly_divided") S_div :=
  fn_ok (N := N_div) (ps := ["prime", "one", "other"]) (d_poly_divided T) (sc_of (by decide +kernel)) (fun _ _ _ _ _ _ us hl => match us, hl with | [_, _, _], _ => rfl) (fun _ _ ⟨_, _, _, e, _⟩ => e ▸ rfl) fun X cg hf ds R ⟨p, a, b, e, hp, ra, rb, hb, hb0, z1, z2, hR⟩ => by
    subst e
    have bf := T.bf
    have h0 := hp.pos
    have h1 := hp.le
    have hbl : 0 < b.length := List.length_pos_iff.mpr hb
    obtain ⟨lb1, lb2⟩ := rb _ (last_mem hb)
    have hlast : 0 < b.getLastD 0 := by omega
    obtain ⟨_, _, v1, v2⟩ := inv_ok hp hlast lb2
    refine r_setM 3 cg (l_list .t (v_var 1)) ?_
    refine r_setD 4 cg (v_len .t (v_var 2)) ?_
    refine r_setD 5 cg (v_fn cg (p_poly_inverse T) (d_poly_inverse T) (g_poly_inverse T) (a_d (v_var 0) (a_d (v_item .t (v_var 2) (v_neg v_int) (atI_rowL hb)) a_nil)) ⟨p, _, rfl, hp, hlast, lb2, rfl⟩) ?_
    have em : (if ((rowD a).length : Int) - ((rowD b).length : Int) + 1 > 0 then ((rowD a).length : Int) - ((rowD b).length : Int) + 1 else 0).toNat = quoN a b := by
      rw [row_len, row_len]
      unfold quoN
      split <;> omega
    have eq : quoN a b ≤ a.length := by unfold quoN; omega
    refine r_setLc 6 cg (lc_map (xs := rangeD 0 1 (if ((rowD a).length : Int) - ((rowD b).length : Int) + 1 > 0 then ((rowD a).length : Int) - ((rowD b).length : Int) + 1 else 0).toNat) (gd := Dt.int) (f := fun _ => .int 0) [("place", 7)] cg (by rw [rangeD_len, em]; omega)
      (it_range1 (v_max2 cg v_int (v_add (v_sub (v_len .t (v_var 1)) (v_var 4)) v_int)) (by
        rw [row_len, row_len]
        refine range62 ?_ ?_ <;> split <;> omega)) fun XB cb q hq => ⟨tg_name 7 cb, v_int⟩) ?_
    rw [zeros em]
    let inv := invI p (b.getLastD 0)
    let st : List Int × List Int → List Sl := fun s => [.im (.int p), .im (.tup (rowD a)), .im (.tup (rowD b)), .mu (rowD s.1), .im (.int ((rowD b).length : Int)), .im (.int inv), .mu (rowD s.2), .no, .no, .no, .no, .no]
    have el : rowD (rangeD (((rowD (List.replicate (quoN a b) 0)).length : Int) - 1) (-1) ((((rowD (List.replicate (quoN a b) 0)).length : Int) - 1) - (-1)).toNat) = (rangeD ((quoN a b : Int) - 1) (-1) (quoN a b)).map Dt.int := by
      rw [row_len, List.length_replicate, show ((quoN a b : Int) - 1 - (-1)).toNat = quoN a b by omega]
    refine r_forF (xs := rangeD ((quoN a b : Int) - 1) (-1) (quoN a b)) (g := Dt.int) cg ((it_range3 (v_sub (v_lenM 6 rfl) v_int) (v_neg v_int) (v_neg v_int) (by
      rw [row_len, List.length_replicate]
      exact ⟨(range62n (by omega) (by omega)).1, (range62n (by omega) (by omega)).2, (range62n (by decide) (by decide)).1, (range62n (by decide) (by decide)).2⟩)).is el) st (divStep p inv b) (a, List.replicate (quoN a b) 0) Le.rfl (fun n i hi => ⟨tg_name 8 cg, ?_⟩) ?_
    · obtain ⟨hn, ei⟩ := range_at hi
      generalize hs : ((rangeD ((quoN a b : Int) - 1) (-1) (quoN a b)).take n).foldl (divStep p inv b) (a, List.replicate (quoN a b) 0) = s
      have ls : s.1.length = a.length ∧ s.2.length = quoN a b := by
        rw [← hs]
        have := divFold_len p inv b ((rangeD ((quoN a b : Int) - 1) (-1) (quoN a b)).take n) (a, List.replicate (quoN a b) 0)
        exact ⟨this.1, this.2.trans (List.length_replicate ..)⟩
      have i0 : 0 ≤ i := by omega
      have hq : quoN a b = a.length + 1 - b.length := rfl
      have b1 : i.toNat + b.length - 1 < s.1.length := by omega
      have b2 : i.toNat < s.2.length := by omega
      let x := getI s.1 (i.toNat + b.length - 1) * inv % p
      refine r_setD (d := .int x) 9 cg (v_mod h0 (v_mul (.inr (small64 (by omega) (by omega))) (v_itemM 3 (v_sub (v_add (v_var 8) (v_var 4)) v_int) rfl (atI_is (m := i.toNat + b.length - 1) (by rw [row_len]; omega) b1)) (v_var 5)) (v_var 0)) ?_
      refine r_put 6 (R := is_ (.int x)) (v_var 9) (v_var 8) rfl (ixN_nat (m := i.toNat) (by omega) (by rw [row_len]; exact b2)) fun d hd => ?_
      cases hd
      rw [row_set]
      have step : divStep p inv b s i = (if x = 0 then s.1 else subRow p s.1 i.toNat x b, s.2.set i.toNat x) := rfl
      by_cases hx : x = 0
      · refine r_if (k := false) ((t_neI (v_var 9) v_int).is (by rw [decide_eq_true hx]; rfl)) (fun h => nomatch h) fun _ => r_nil (r_nil ?_)
        rw [step, if_pos hx]
        exact .eq (.eq (.eq (.eq (.eq (.eq (.eq (.eq (.no (.no (.eq (.eq .nil)))))))))))
      · refine r_if (k := true) ((t_neI (v_var 9) v_int).is (by rw [decide_eq_false hx]; rfl)) (fun _ => ?_) fun h => nomatch h
        rw [step, if_neg hx]
        let st2 : List Int → List Sl := fun f => [.im (.int p), .im (.tup (rowD a)), .im (.tup (rowD b)), .mu (rowD f), .im (.int ((rowD b).length : Int)), .im (.int inv), .mu (rowD (s.2.set i.toNat x)), .no, .im (.int i), .im (.int x), .no, .no]
        refine r_forF (xs := b.zipIdx) (g := fun q => .tup [.int (q.2 : Nat), .int q.1]) cg (by rw [← enumD_row]; exact it_enum .t (v_var 2)) st2 (fun f q => f.set (i.toNat + q.2) ((getI f (i.toNat + q.2) - x * q.1) % p)) s.1 Le.rfl (fun m r hr => ⟨tg_tup cg (tp_cons 10 cg (tp_cons 11 cg tp_nil)), ?_⟩) ?_
        · obtain ⟨e3, hm, hy⟩ := zipIdx_at hr
          generalize hf1 : (b.zipIdx.take m).foldl (fun f q => f.set (i.toNat + q.2) ((getI f (i.toNat + q.2) - x * q.1) % p)) s.1 = f1
          have l1 : f1.length = a.length := by rw [← hf1, subRow_len, ls.1]
          have hb3 : i.toNat + r.2 < f1.length := by omega
          refine r_put 3 (R := is_ (.int ((getI f1 (i.toNat + r.2) - x * r.1) % p))) (v_mod h0 (v_sub (v_itemM 3 (v_add (v_var 8) (v_var 10)) rfl (atI_is (m := i.toNat + r.2) (by omega) hb3)) (v_mul (.inr (rb.small (by omega) (List.mem_of_getElem? hy))) (v_var 9) (v_var 11))) (v_var 0)) (v_add (v_var 8) (v_var 10)) rfl (ixN_nat (m := i.toNat + r.2) (by omega) (by rw [row_len]; exact hb3)) fun d hd => r_nil ?_
          cases hd
          rw [row_set]
          exact .eq (.eq (.eq (.eq (.eq (.eq (.eq (.eq (.eq (.eq (.no (.no .nil)))))))))))
        · exact r_nil (r_nil (.eq (.eq (.eq (.eq (.eq (.eq (.eq (.eq (.no (.no (.eq (.eq .nil)))))))))))))
    · refine r_freeze 6 rfl ?_
      refine r_retD (v_tupD (a_d (v_var 6) (a_d (v_slM 3 o_none (o_some (v_sub (v_var 4) v_int)) rfl) a_nil))) ?_
      have e1 : ((rowD b).length : Int) - 1 = ((b.length - 1 : Nat) : Int) := by
        rw [row_len]
        omega
      show R (.tup [.lst (rowD _), .lst (cutD (rowD _) none (some (((rowD b).length : Int) - 1)))])
      rw [e1, cutD_upto]
      exact hR
end
end DL

namespace DL
open PySem PySem.Spec PyProof.Rows L2
section
variable {P : Program} {w : World} {K : PySem.W.Frag} {mg : Str → Option Value} {base : Heap}
/-! ### texts of rows -/
def numS (i : Int) : Str := toString i
def headS (e : Int) : Str := if e = 1 then "" else numS e
def termS (e k : Int) : Str := if k = 0 then numS e else if k = 1 then headS e ++ "x" else headS e ++ ("x" ++ ("^" ++ (numS k ++ Str.empty)))
theorem log_small {i : Int} (h0 : 0 ≤ i) (h : i < 100000) : i.natAbs.log2 < 1920 := by
  have e : i.natAbs.log2 < 17 := by
    by_cases z : i.natAbs = 0
    · rw [z]
      decide
    · exact (Nat.log2_lt z).mpr (by omega)
  omega
theorem numS_len {i : Int} (h0 : 0 ≤ i) (h : i < 100000) : (numS i).length ≤ 6 := by
  have e := int_text_length_le10 (a := i) (k := 5) (by decide) (by omega)
  unfold numS
  rw [PySem.ofString_length]
  exact e
theorem headS_len {i : Int} (h0 : 0 ≤ i) (h : i < 100000) : (headS i).length ≤ 6 := by
  unfold headS
  split
  · decide
  · exact numS_len h0 h
theorem lit1 (s : Str) (h : s.length = 1) : s.length ≤ 1 := by omega
theorem termS_len {e k : Int} (h0 : 0 ≤ e) (h1 : e < 100000) (k0 : 0 ≤ k) (k1 : k < 100000) : (termS e k).length ≤ 14 := by
  have a := headS_len h0 h1
  have b := numS_len h0 h1
  have c := numS_len k0 k1
  have x1 : ("x" : Str).length = 1 := by decide +kernel
  have x2 : ("^" : Str).length = 1 := by decide +kernel
  have x3 : (Str.empty).length = 0 := rfl
  unfold termS
  split
  · omega
  · split
    · rw [app_len, x1]
      omega
    · rw [app_len, app_len, app_len, app_len, x1, x2, x3]
      omega
def S_term : Sd := fun ds R => ∃ e k : Int, ds = [.int e, .int k] ∧ 0 ≤ e ∧ e < 100000 ∧ 0 ≤ k ∧ k < 100000 ∧ R (.str (termS e k))
theorem p_poly_term (T : Tx K mg) : FnA P w K mg base 1 (He.ga K "poly_term") S_term :=
  fn_ok (N := ["entry", "power", "head"]) (ps := ["entry", "power"]) (d_poly_term T) (sc_of (by decide +kernel)) (fun _ _ _ _ _ _ us hl => match us, hl with | [_, _], _ => rfl) (fun _ _ ⟨_, _, e, _⟩ => e ▸ rfl) fun X cg hf ds R ⟨e, k, ed, h0, h1, k0, k1, hR⟩ => by
    subst ed
    have bf := T.bf
    refine r_if (t_eqI (v_var 1) v_int) (fun hb => ?_) fun hb => r_nil ?_
    · refine r_retD (v_strI (log_small h0 h1) (hm := Cg.bf cg bf rfl) (v_var 0)) ?_
      unfold termS at hR
      rw [if_pos (of_decide_eq_true hb)] at hR
      exact hR
    · have hk : k ≠ 0 := of_decide_eq_false hb
      unfold termS at hR
      rw [if_neg hk] at hR
      refine r_setD (d := .str (headS e)) 2 cg (v_ifExp (t_eqI (v_var 0) v_int) (fun hb => v_str.is (by unfold headS; rw [if_pos (of_decide_eq_true hb)])) fun hb => (v_strI (log_small h0 h1) (hm := Cg.bf cg bf rfl) (v_var 0)).is (by unfold headS; rw [if_neg (of_decide_eq_false hb)]; rfl)) ?_
      have hd := headS_len h0 h1
      refine r_ret (v_ifExp (t_eqI (v_var 1) v_int) (fun hb => ?_) fun hb => ?_)
      · refine (v_addS ?_ (v_var 2) (v_gs cg (g_LETTER T))).mono fun d ed => ?_
        · have x1 : ("x" : Str).length = 1 := by decide +kernel
          rw [x1]
          omega
        · cases ed
          rw [if_pos (of_decide_eq_true hb)] at hR
          exact hR
      · refine (v_joined (L := 100) (j_cons (l := 6) (v_fmtS (A := fun s => s = headS e) (fun s e => by rw [e]; omega) ((v_var (d := .str (headS e)) 2).mono fun d e => ⟨_, e, rfl⟩)) (fun s e => by rw [e]; exact hd)
          (j_cons (l := 1) (v_fmtS (A := fun s => s = ("x" : Str)) (fun s e => by rw [e]; decide +kernel) ((v_gs cg (g_LETTER T)).mono fun d e => ⟨_, e, rfl⟩)) (fun s e => by rw [e]; decide +kernel)
          (j_cons (l := 1) v_strT (fun s e => by rw [e]; decide +kernel) (j_cons (l := 92) (v_fmtI (log_small k0 k1) (v_var 1)) (fun s e => by rw [e]; exact Nat.le_trans (numS_len k0 k1) (by decide)) j_nil)))) (by decide)).mono fun d ⟨s, ed, ⟨a, b, e1, e2, a2, b2, e3, e4, a3, b3, e5, e6, a4, b4, e7, e8, e9⟩, hl⟩ => ?_
        subst ed e1 e2 e3 e4 e5 e6 e7 e8 e9
        rw [if_neg (of_decide_eq_false hb)] at hR
        exact hR
def textL (r : List Int) : List Str := (r.zipIdx.filter fun q => !decide (q.1 = 0)).map fun q => termS q.1 (q.2 : Nat)
def textR (r : List Int) : Str := if textL r = [] then "0" else Txt.join "+" (textL r).reverse
theorem pds_str : ∀ ys : List Str, pdsOf (ys.map Dt.str) = some (ys.map PyData.str)
  | [] => rfl
  | y :: ys => by
    show pdsOf (.str y :: ys.map Dt.str) = _
    simp only [pdsOf, pdOf, pds_str ys, List.map_cons]
abbrev okS (s : Str) : Prop := PyData.strOk s = true
theorem okS_of (s : String) : okS (Str.ofString s) := by
  show ((Str.ofString s).cps.all fun c => decide (c < 0x110000)) = true
  rw [Str.ofString_eq_toList]
  show (((s.toList.map Char.toNat).toArray).all fun c => decide (c < 0x110000)) = true
  rw [List.all_toArray, List.all_eq_true]
  intro x hx
  obtain ⟨c, _, rfl⟩ := List.mem_map.mp hx
  have h := c.valid
  have h2 : c.toNat = c.val.toNat := rfl
  rcases h with h | ⟨_, h⟩
  · have : c.val.toNat < 0xd800 := h
    exact decide_eq_true (by omega)
  · have : c.val.toNat < 0x110000 := h
    exact decide_eq_true (by omega)
theorem okS_app {a b : Str} (ha : okS a) (hb : okS b) : okS (a ++ b) := by
  show ((a.cps ++ b.cps).all fun c => decide (c < 0x110000)) = true
  rw [Array.all_append]
  exact Bool.and_eq_true_iff.mpr ⟨ha, hb⟩
theorem okS_head (e : Int) : okS (headS e) := by
  unfold headS
  split
  · decide +kernel
  · exact okS_of _
theorem okS_term (e k : Int) : okS (termS e k) := by
  unfold termS
  split
  · exact okS_of _
  · split
    · exact okS_app (okS_head e) (by decide +kernel)
    · exact okS_app (okS_head e) (okS_app (by decide +kernel) (okS_app (by decide +kernel) (okS_app (okS_of _) (by decide +kernel))))
theorem sh_strs (ys : List Str) (hy : ∀ y ∈ ys, okS y) : SeqAt.shaped (.list (ys.map PyData.str)) = true := by
  have c : ∀ ys : List Str, (∀ y ∈ ys, okS y) → PyData.canLayAll0 (ys.map PyData.str) = true := fun ys => by
    induction ys with
    | nil => intro _; simp [PyData.canLayAll0]
    | cons y ys ih =>
      intro h
      rw [List.map_cons]
      simp only [PyData.canLayAll0, PyData.canLay0, ih fun z hz => h z (List.mem_cons_of_mem _ hz), h y List.mem_cons_self, Bool.and_self]
  have d : ∀ ys : List Str, PyData.depthAll (ys.map PyData.str) = 0 := fun ys => by
    induction ys with
    | nil => simp [PyData.depthAll]
    | cons y ys ih =>
      rw [List.map_cons]
      simp only [PyData.depthAll, PyData.depth, ih, Nat.max_self]
  unfold SeqAt.shaped
  simp only [PyData.canLay0, PyData.depth, c ys hy, d]
  decide
theorem eqv_nil {xs : List PyData} : PyData.eqvAll xs [] = decide (xs = []) := by
  cases xs with
  | nil => simp [PyData.eqvAll]
  | cons a b => simp [PyData.eqvAll]
theorem t_neStrs {X : Cx} {δ : List Sl} {a b : Expr} {pos : Pos} {k : Nat} {N : List Str} {sc : Scope} {ys : List Str} (c : Cg P w K mg base k N sc X) (hy : ∀ y ∈ ys, okS y) (ha : EvD X δ a (.lst (ys.map Dt.str))) (hb : EvD X δ b (.lst [])) : EvT X δ (.Compare a [.NotEq] [b] pos) (!decide (ys = [])) := by
  have h := od_neP (X := X) (dx := .lst (ys.map Dt.str)) (dy := .lst []) (x := .list (ys.map PyData.str)) (y := .list []) (by simp only [pdOf, pds_str, Option.map_some]) rfl (sh_strs ys hy) (by decide +kernel)
  have e : PyData.eqv (.list (ys.map PyData.str)) (.list []) = decide (ys = []) := by
    simp only [PyData.eqv, eqv_nil]
    rw [Bool.eq_iff_iff]
    simp
  rw [e] at h
  exact t_cmp (op_neD c.u64) ha hb (d2 h) (nomark _)
def S_text : Sd := fun ds R => ∃ r, ds = [.tup (rowD r)] ∧ Res 1000 r ∧ r.length ≤ 10000 ∧ R (.str (textR r))
theorem textL_len {r : List Int} (hr : Res 1000 r) (hl : r.length ≤ 10000) : ((textL r).map (·.length)).sum + (textL r).length ≤ 15 * r.length := by
  have gen : ∀ (l : List (Int × Nat)), (∀ q ∈ l, 0 ≤ q.1 ∧ q.1 < 1000 ∧ q.2 < 10000) → (((l.filter fun q => !decide (q.1 = 0)).map fun q => termS q.1 (q.2 : Nat)).map (·.length)).sum + ((l.filter fun q => !decide (q.1 = 0)).map fun q => termS q.1 (q.2 : Nat)).length ≤ 15 * l.length := by
    intro l
    induction l with
    | nil => intro _; simp
    | cons q l ih =>
      intro h
      have i1 := ih fun x hx => h x (List.mem_cons_of_mem _ hx)
      obtain ⟨a1, a2, a3⟩ := h q List.mem_cons_self
      have t := termS_len (e := q.1) (k := (q.2 : Nat)) a1 (by omega) (by omega) (by omega)
      rw [List.filter_cons]
      split
      · simp only [List.map_cons, List.sum_cons, List.length_cons]
        simp only [List.length_map] at i1 ⊢
        omega
      · rw [List.length_cons]
        omega
  have := gen r.zipIdx fun q hq => by
    obtain ⟨n, hn, e⟩ := List.mem_iff_getElem.mp hq
    have h2 : r.zipIdx[n]? = some q := by rw [List.getElem?_eq_getElem hn, e]
    obtain ⟨e2, h3, h4⟩ := zipIdx_at h2
    have := hr q.1 (List.mem_of_getElem? h4)
    omega
  rw [List.length_zipIdx] at this
  exact this
theorem p_poly_text (T : Tx K mg) : FnA P w K mg base 2 (He.ga K "poly_text") S_text :=
  fn_ok (N := ["row", "terms", "power", "entry"]) (ps := ["row"]) (d_poly_text T) (sc_of (by decide +kernel)) (fun _ _ _ _ _ _ us hl => match us, hl with | [_], _ => rfl) (fun _ _ ⟨_, e, _⟩ => e ▸ rfl) fun X cg hf ds R ⟨r, ed, hr, hl, hR⟩ => by
    subst ed
    have bf := T.bf
    refine r_setLc 1 cg (lc_filter (xs := r.zipIdx) (gd := fun q => .tup [.int (q.2 : Nat), .int q.1]) (f := fun q => .str (termS q.1 (q.2 : Nat))) (p := fun q => !decide (q.1 = 0)) [("power", 2), ("entry", 3)] cg (by rw [List.length_zipIdx]; omega) (by rw [← enumD_row]; exact it_enum .t (v_var 0)) fun XB cb q hq =>
      ⟨tg_tup cb (tp_cons 2 cb (tp_cons 3 cb tp_nil)), t_neI (v_var 3) v_int, fun _ => ?_⟩) ?_
    · obtain ⟨n, hn, e⟩ := List.mem_iff_getElem.mp hq
      have h2 : r.zipIdx[n]? = some q := by rw [List.getElem?_eq_getElem hn, e]
      obtain ⟨e2, h3, h4⟩ := zipIdx_at h2
      have := hr q.1 (List.mem_of_getElem? h4)
      exact v_fn cb (p_poly_term T) (d_poly_term T) (g_poly_term T) (a_d (v_var 3) (a_d (v_var 2) a_nil)) ⟨q.1, _, rfl, by omega, by omega, by omega, by omega, rfl⟩
    · have es : (r.zipIdx.filter fun q => !decide (q.1 = 0)).map (fun q => Dt.str (termS q.1 (q.2 : Nat))) = (textL r).map Dt.str := by
        unfold textL
        rw [List.map_map]
        rfl
      rw [es]
      have okT : ∀ y ∈ textL r, okS y := fun y hy => by
        unfold textL at hy
        obtain ⟨q, _, rfl⟩ := List.mem_map.mp hy
        exact okS_term _ _
      refine r_freeze 1 rfl (r_ret (v_ifExp (t_neStrs cg okT (v_var 1) (v_L (l_lst a_nil))) (fun hb => ?_) fun hb => ?_))
      · have hne : textL r ≠ [] := by simpa using hb
        refine (v_join (ys := (textL r).reverse) ?_ v_str ((v_revL (v_var 1)).is (by rw [List.map_reverse]))).mono fun d ed => ?_
        · have h := textL_len hr hl
          have x1 : ("+" : Str).length = 1 := by decide +kernel
          rw [x1, List.map_reverse, List.sum_reverse, List.length_reverse]
          omega
        · cases ed
          unfold textR at hR
          rw [if_neg hne] at hR
          exact hR
      · have hne : textL r = [] := by simpa using hb
        refine v_str.mono fun d ed => ?_
        cases ed
        unfold textR at hR
        rw [if_pos hne] at hR
        exact hR
end
end DL

namespace DL
open PySem PySem.Spec PyProof.Rows L2
section
variable {P : Program} {w : World} {K : PySem.W.Frag} {mg : Str → Option Value} {base : Heap}
theorem join_len (ys : List Str) : (Txt.join "+" ys).length ≤ (ys.map (·.length)).sum + ys.length := by
  cases ys with
  | nil => exact Nat.le_refl _
  | cons a r =>
    show (Builtin.Str.glued "+" (a :: r)).length ≤ _
    have x1 : ("+" : Str).length = 1 := by decide +kernel
    rw [StrLaws.glued_eq_join, len_join_cons, x1, List.length_cons]
    omega
theorem textR_len {r : List Int} (hr : Res 1000 r) (hl : r.length ≤ 10000) : (textR r).length ≤ 16 * r.length + 16 := by
  unfold textR
  split
  · exact Nat.le_trans (by decide +kernel : ("0" : Str).length ≤ 16) (by omega)
  · have h := textL_len hr hl
    have j := join_len (textL r).reverse
    rw [List.map_reverse, List.sum_reverse, List.length_reverse] at j
    omega
theorem Wf.prr {p : Int} {r : List Int} (h : Wf p r) : Pr p := h.pr
theorem Wf.ress {p : Int} {r : List Int} (h : Wf p r) : Res p r := h.res
theorem Res.up {p q : Int} {r : List Int} (h : Res p r) (e : p ≤ q) : Res q r := fun x hx => by
  have := h x hx
  omega
/-! ### the entries of a polynomial -/
def S_are : Sd := fun ds R => ∃ p r, ds = [.int p, .tup (rowD r)] ∧ Wf p r ∧ r.length ≤ 1000 ∧ R (.bl true)
theorem p_are (T : Tx K mg) : FnA P w K mg base 3 (He.ga K "are_poly_entries") S_are :=
  fn_ok (N := ["prime", "value", "entry"]) (ps := ["prime", "value"]) (d_are_poly_entries T) (sc_of (by decide +kernel)) (fun _ _ _ _ _ _ us hl => match us, hl with | [_, _], _ => rfl) (fun _ _ ⟨_, _, e, _⟩ => e ▸ rfl) fun X cg hf ds R ⟨p, r, ed, hw, hl, hR⟩ => by
    subst ed
    have bf := T.bf
    refine r_if (k := false) ((t_w (w_or (t_not (t_val (v_it cg (kb_tuple_tuple T) (v_var 1)))) fun _ => w_or1 (t_gt (v_len .t (v_var 1)) (v_gi cg (g_MAX_ENTRIES T))))).is ?_) (fun h => nomatch h) fun _ => r_nil ?_
    · rw [row_len]
      exact decide_eq_false (by omega)
    · refine r_if (k := false) ((t_not (t_val (v_all cg (r := r.map fun e => decide (0 ≤ e) && decide (e < p)) ((v_lc cg (lc_map (xs := r) (gd := Dt.int) (f := fun e => .bl (decide (0 ≤ e) && decide (e < p))) [("entry", 2)] cg (by omega) (it_tup (v_var 1)) fun XB cb e he =>
        ⟨tg_name 2 cb, v_fn cb (p_is_residue_of T) (d_is_residue_of T) (g_is_residue_of T) (a_d (v_var 0) (a_d (v_var 2) a_nil)) ⟨p, e, rfl, rfl⟩⟩)).is (by rw [List.map_map]; rfl))))).is ?_) (fun h => nomatch h) fun _ => r_nil ?_
      · have : (r.map fun e => decide (0 ≤ e) && decide (e < p)).all id = true := by
          rw [List.all_eq_true]
          intro x hx
          obtain ⟨e, he, rfl⟩ := List.mem_map.mp hx
          obtain ⟨a, b⟩ := hw.res e he
          rw [decide_eq_true a, decide_eq_true b]
          rfl
        rw [this]
        rfl
      · by_cases hr : r = []
        · refine r_retD ((v_or (m := true) (v_eqT (r2 := []) cg (v_var 1) (v_tupD a_nil)) fun h => ?_).is ?_) hR
          · rw [hr] at h
            cases h
          · rw [hr]
            rfl
        · have hne : r.getLastD 0 ≠ 0 := by
            have := hw.top
            rcases List.eq_nil_or_concat r with e | ⟨l, x, e⟩
            · exact absurd e hr
            · rw [e] at this ⊢
              simpa using this
          refine r_retD ((v_or (v_eqT (r2 := []) cg (v_var 1) (v_tupD a_nil)) fun _ => v_one (v_neI (v_item .t (v_var 1) (v_neg v_int) (atI_rowL hr)) v_int)).is ?_) hR
          rw [decide_eq_false hr, decide_eq_false hne]
          rfl
/-! ### Poly -/
def fP (p : Int) (r : List Int) : List (Option Dt) := [some (.tup (rowD r)), some (.int (r.getLastD 0)), some (.int (numR p r)), some (.int p), some (.str (textR r))]
def I_poly : Si := fun ds RF => ∃ p r, ((ds = [.int p, .ent r] ∧ r.length ≤ 10000) ∨ (ds = [.int p, .tup (rowD r)] ∧ r.length ≤ 1000)) ∧ Wf p r ∧ RF (fP p r)
abbrev N_Poly : List Str := ["self", "prime", "entries", "row"]
theorem b_Poly (T : Tx K mg) {X : Cx} (cg : Cg P w K mg base 4 N_Poly (SCm 46 1) X) {p : Int} {r : List Int} {d : Dt} {a dx : Addr} (hw : Wf p r) (hl : r.length ≤ 10000) {D : DEnds} (hD : ∀ δr, D.nx (.ob (cP K, a, dx) (fP p r) :: δr)) :
    RunS X [.ob (cP K, a, dx) [], .im (.int p), .im d, .im (.tup (rowD r))] ((BDm 46 1).drop 1) D := by
  have bf := T.bf
  have fr := cg.fr
  have pp := hw.prr.pos
  have pl := hw.prr.le
  refine r_fld 0 (C := (cP K, a, dx)) (by rw [fr]; exact sc_Poly T) (by rw [fr]; exact sl_Poly_own_prime T) (v_var 1) rfl fun d hd => ?_
  cases hd
  refine r_fld 0 (C := (cP K, a, dx)) (by rw [fr]; exact sc_Poly T) (by rw [fr]; exact sl_Poly_own_entries T) (v_var 3) rfl fun d hd => ?_
  cases hd
  refine r_fld 0 (C := (cP K, a, dx)) (R := is_ (.int (r.getLastD 0))) (by rw [fr]; exact sc_Poly T) (by rw [fr]; exact sl_Poly_own_lead T) (v_ifExp (t_gt (v_len .t (v_var 3)) v_int) (fun h => ?_) fun h => ?_) rfl fun d hd => ?_
  · have hr : r ≠ [] := fun z => by
      rw [z] at h
      exact absurd (of_decide_eq_true h) (by decide)
    exact v_item .t (v_var 3) (v_neg v_int) (atI_rowL hr)
  · have hr : r = [] := by
      have := of_decide_eq_false h
      rw [row_len] at this
      exact List.eq_nil_of_length_eq_zero (by omega)
    exact v_int.is (by rw [hr]; rfl)
  · cases hd
    refine r_fld 0 (C := (cP K, a, dx)) (R := is_ (.int (numR p r))) (by rw [fr]; exact sc_Poly T) (by rw [fr]; exact sl_Poly_own_number T) (v_fn cg (p_poly_number T) (d_poly_number T) (g_poly_number T) (a_d (v_var 1) (a_d (v_var 3) a_nil)) ⟨p, r, rfl, pp, by omega, rfl⟩) rfl fun d hd => ?_
    cases hd
    refine r_fld 0 (C := (cP K, a, dx)) (R := is_ (.str (textR r))) (by rw [fr]; exact sc_Poly T) (by rw [fr]; exact sl_Poly_own_text T) (v_fn cg (p_poly_text T) (d_poly_text T) (g_poly_text T) (a_d (v_var 3) a_nil) ⟨r, rfl, hw.ress.up (by omega), hl, rfl⟩) rfl fun d hd => ?_
    cases hd
    exact r_nil (hD _)
theorem p_Poly_init (T : Tx K mg) : FnR P w K mg base CX0 5 (He.ma K (cP K) "__init__") (spI K (cP K) I_poly) :=
  fnI_ok (N := N_Poly) (ps := ["self", "prime", "entries"]) (d_Poly___init__ T) (sc_of (by decide +kernel)) (fun _ _ _ _ _ _ us hl => match us, hl with | [_, _, _], _ => rfl) (fun _ _ ⟨_, _, e, _⟩ => by rcases e with ⟨e, _⟩ | ⟨e, _⟩ <;> exact e ▸ rfl) fun X cg hf ds RF ⟨p, r, e, hw, hR⟩ a dx => by
    have bf := T.bf
    rcases e with ⟨e, hl⟩ | ⟨e, hl⟩
    · subst e
      refine r_if (k := true) (t_val (v_io cg (sc_Entries T) (si_Entries T) (ki_Entries_Entries T) (g_Entries T) i_ent (v_var 2))) (fun _ => ?_) fun h => nomatch h
      refine r_setD 3 cg (v_sl cg (sc_Entries T) (sl_Entries_own_row T) f_ent (v_var 2)) (r_nil ?_)
      exact b_Poly T cg hw hl fun δr => ⟨_, _, rfl, hR⟩
    · subst e
      refine r_if (k := false) (t_val (v_ito cg (kt_tuple_Entries T) (g_Entries T) (v_var 2))) (fun h => nomatch h) fun _ => ?_
      refine r_expr (R := fun _ => True) (v_fn cg (p_require_prime T) (d_require_prime T) (g_require_prime T) (a_d (v_var 1) a_nil) ⟨p, rfl, hw.prr, trivial⟩) ?_
      refine r_if (k := false) ((t_not (t_val (v_fn cg (p_are T) (d_are_poly_entries T) (g_are_poly_entries T) (a_d (v_var 1) (a_d (v_var 2) a_nil)) ⟨p, r, rfl, hw, hl, rfl⟩))).is rfl) (fun h => nomatch h) fun _ => r_nil ?_
      refine r_setD 3 cg (v_var 2) (r_nil ?_)
      exact b_Poly T cg hw (by omega) fun δr => ⟨_, _, rfl, hR⟩
section
variable {X : Cx} {δ : List Sl} {a b : Expr} {pos p1 p2 : Pos} {k : Nat} {N : List Str} {sc : Scope} {p : Int} {r : List Int}
/-- Poly(prime, row) -/
theorem v_Poly (T : Tx K mg) (cg : Cg P w K mg base k N sc X) (hw : Wf p r) (hl : r.length ≤ 1000) (ha : EvD X δ a (.int p)) (hb : EvD X δ b (.tup (rowD r))) (hn : 6 ≤ k := by decide) (hg : Gl X "Poly" := by first | rfl | exact Cg.gl (by assumption) rfl)
    (he : starEach [a, b] X.env = (false, eval a X.env) :: starEach [b] X.env := by rfl) (he2 : starEach [b] X.env = (false, eval b X.env) :: starEach [] X.env := by rfl) (hpl : (backTo pos (starEach [b] X.env)).any (·.1) = false := by rfl) : EvD X δ (.Call (.Name "Poly" p1) [a, b] [] pos) (.poly p r) :=
  v_new cg (mk_Poly T) (p_Poly_init T) hn (g_Poly T) (a_d ha (a_d hb a_nil he2) he) (fun ds e => ⟨fun fs => fs = fP p r, ⟨p, r, .inr ⟨e, hl⟩, hw, rfl⟩, fun fs ef => ⟨⟨.tup (rowD r), by rw [show fs = fP p r from ef]; rfl⟩, _, rfl, by
    rw [show fs = fP p r from ef]
    exact seal_poly hw (textR_len (hw.ress.up (by have := hw.prr.le; omega)) (by omega))⟩⟩) hg (by decide) he hpl
end
end
end DL

namespace DL
open PySem PySem.Spec PyProof.Rows L2
section
variable {P : Program} {w : World} {K : PySem.W.Frag} {mg : Str → Option Value} {base : Heap}
theorem wf_trim {p : Int} {r : List Int} (hp : Pr p) (hr : Res p r) : Wf p (trimI r) := ⟨hp, fun x hx => hr x (trim_mem hx), trim_top r⟩
/-! ### made -/
def S_made : Sd := fun ds R => ∃ p r, ds = [.int p, .lst (rowD r)] ∧ Pr p ∧ Res p r ∧ r.length ≤ 10000 ∧ R (.poly p (trimI r))
theorem p_made (T : Tx K mg) : FnA P w K mg base 7 (He.ga K "made") S_made :=
  fn_ok (N := ["prime", "row"]) (ps := ["prime", "row"]) (d_made T) (sc_of (by decide +kernel)) (fun _ _ _ _ _ _ us hl => match us, hl with | [_, _], _ => rfl) (fun _ _ ⟨_, _, e, _⟩ => e ▸ rfl) fun X cg hf ds R ⟨p, r, ed, hp, hr, hl, hR⟩ => by
    subst ed
    have bf := T.bf
    have hw := wf_trim hp hr
    have hl2 := trim_len r
    refine r_ret (v_new cg (mk_Poly T) (p_Poly_init T) (by decide) (g_Poly T) (a_d (v_var 0) (a_d (d := .ent (trimI r)) (v_new cg (mk_Entries T) (p_Entries_init T) (by decide) (g_Entries T) (a_d (v_fn cg (p_poly_row T) (d_poly_row T) (g_poly_row T) (a_d (v_var 1) a_nil) ⟨r, rfl, hl, rfl⟩) a_nil) fun ds e => ⟨fun fs => fs = [some (.tup (rowD (trimI r)))], ⟨_, e, rfl⟩, fun fs ef => ⟨⟨.tup (rowD (trimI r)), by rw [show fs = _ from ef]; rfl⟩, _, rfl, by
      rw [show fs = _ from ef]
      exact seal_ent⟩⟩) a_nil)) fun ds e => ⟨fun fs => fs = fP p (trimI r), ⟨p, trimI r, .inl ⟨e, by omega⟩, hw, rfl⟩, fun fs ef => ⟨⟨.tup (rowD (trimI r)), by rw [show fs = _ from ef]; rfl⟩, _, hR, by
      rw [show fs = _ from ef]
      exact seal_poly hw (textR_len (hw.ress.up (by have := hp.le; omega)) (by omega))⟩⟩)
/-! ### properties -/
def S_gp (f : Int → List Int → Dt) : Sd := fun ds R => ∃ p r, ds = [.poly p r] ∧ R (f p r)
theorem p_Poly_prime (T : Tx K mg) : FnA P w K mg base 1 (gAd K (cP K) "prime") (S_gp fun p _ => .int p) :=
  fn_ok (N := ["self"]) (ps := ["self"]) (d_Poly_prime T) (sc_of (by decide +kernel)) (fun _ _ _ _ _ _ us hl => match us, hl with | [_], _ => rfl) (fun _ _ ⟨_, _, e, _⟩ => e ▸ rfl) fun X cg hf ds R ⟨p, r, ed, hR⟩ => by
    subst ed
    exact r_retD (v_sl cg (sc_Poly T) (sl_Poly_own_prime T) f_prime (v_var 0)) hR
theorem p_Poly_entries (T : Tx K mg) : FnA P w K mg base 1 (gAd K (cP K) "entries") (S_gp fun _ r => .tup (rowD r)) :=
  fn_ok (N := ["self"]) (ps := ["self"]) (d_Poly_entries T) (sc_of (by decide +kernel)) (fun _ _ _ _ _ _ us hl => match us, hl with | [_], _ => rfl) (fun _ _ ⟨_, _, e, _⟩ => e ▸ rfl) fun X cg hf ds R ⟨p, r, ed, hR⟩ => by
    subst ed
    exact r_retD (v_sl cg (sc_Poly T) (sl_Poly_own_entries T) f_row (v_var 0)) hR
theorem p_Poly_degree (T : Tx K mg) : FnA P w K mg base 1 (gAd K (cP K) "degree") (S_gp fun _ r => .int ((r.length : Int) - 1)) :=
  fn_ok (N := ["self"]) (ps := ["self"]) (d_Poly_degree T) (sc_of (by decide +kernel)) (fun _ _ _ _ _ _ us hl => match us, hl with | [_], _ => rfl) (fun _ _ ⟨_, _, e, _⟩ => e ▸ rfl) fun X cg hf ds R ⟨p, r, ed, hR⟩ => by
    subst ed
    have bf := T.bf
    refine r_retD (v_sub (v_len .t (v_sl cg (sc_Poly T) (sl_Poly_own_entries T) f_row (v_var 0))) v_int) ?_
    rw [row_len]
    exact hR
theorem p_Poly_lead (T : Tx K mg) : FnA P w K mg base 1 (gAd K (cP K) "lead") (S_gp fun _ r => .int (r.getLastD 0)) :=
  fn_ok (N := ["self"]) (ps := ["self"]) (d_Poly_lead T) (sc_of (by decide +kernel)) (fun _ _ _ _ _ _ us hl => match us, hl with | [_], _ => rfl) (fun _ _ ⟨_, _, e, _⟩ => e ▸ rfl) fun X cg hf ds R ⟨p, r, ed, hR⟩ => by
    subst ed
    exact r_retD (v_sl cg (sc_Poly T) (sl_Poly_own_lead T) f_lead (v_var 0)) hR
theorem p_Poly_is_zero (T : Tx K mg) : FnA P w K mg base 1 (gAd K (cP K) "is_zero") (S_gp fun _ r => .bl (decide (r = []))) :=
  fn_ok (N := ["self"]) (ps := ["self"]) (d_Poly_is_zero T) (sc_of (by decide +kernel)) (fun _ _ _ _ _ _ us hl => match us, hl with | [_], _ => rfl) (fun _ _ ⟨_, _, e, _⟩ => e ▸ rfl) fun X cg hf ds R ⟨p, r, ed, hR⟩ => by
    subst ed
    exact r_retD (v_eqT (r2 := []) cg (v_sl cg (sc_Poly T) (sl_Poly_own_entries T) f_row (v_var 0)) (v_tupD a_nil)) hR
/-! ### what is required -/
def S_rp : Sd := fun ds R => ∃ p r, ds = [.poly p r] ∧ R .non
theorem p_require_poly (T : Tx K mg) : FnA P w K mg base 1 (He.ga K "require_poly") S_rp :=
  fn_ok (N := ["value"]) (ps := ["value"]) (d_require_poly T) (sc_of (by decide +kernel)) (fun _ _ _ _ _ _ us hl => match us, hl with | [_], _ => rfl) (fun _ _ ⟨_, _, e, _⟩ => e ▸ rfl) fun X cg hf ds R ⟨p, r, ed, hR⟩ => by
    subst ed
    have bf := T.bf
    exact r_if (k := false) ((t_not (t_val (v_io cg (sc_Poly T) (si_Poly T) (ki_Poly_Poly T) (g_Poly T) i_poly (v_var 0)))).is rfl) (fun h => nomatch h) fun _ => r_nil (r_nil hR)
def S_rsp : Sd := fun ds R => ∃ p a b, ds = [.poly p a, .poly p b] ∧ R .non
theorem p_require_same (T : Tx K mg) : FnA P w K mg base 1 (He.ga K "require_same_prime") S_rsp :=
  fn_ok (N := ["one", "other"]) (ps := ["one", "other"]) (d_require_same_prime T) (sc_of (by decide +kernel)) (fun _ _ _ _ _ _ us hl => match us, hl with | [_, _], _ => rfl) (fun _ _ ⟨_, _, _, e, _⟩ => e ▸ rfl) fun X cg hf ds R ⟨p, a, b, ed, hR⟩ => by
    subst ed
    have bf := T.bf
    exact r_if (k := false) ((t_neI (v_sl cg (sc_Poly T) (sl_Poly_own_prime T) f_prime (v_var 0)) (v_sl cg (sc_Poly T) (sl_Poly_own_prime T) f_prime (v_var 1))).is (by rw [decide_eq_true rfl]; rfl)) (fun h => nomatch h) fun _ => r_nil (r_nil hR)
def S_rdv : Sd := fun ds R => ∃ p a b, ds = [.poly p a, .poly p b] ∧ b ≠ [] ∧ R .non
theorem p_require_divisor (T : Tx K mg) : FnA P w K mg base 2 (He.ga K "require_divisor") S_rdv :=
  fn_ok (N := ["one", "other"]) (ps := ["one", "other"]) (d_require_divisor T) (sc_of (by decide +kernel)) (fun _ _ _ _ _ _ us hl => match us, hl with | [_, _], _ => rfl) (fun _ _ ⟨_, _, _, e, _⟩ => e ▸ rfl) fun X cg hf ds R ⟨p, a, b, ed, hb, hR⟩ => by
    subst ed
    have bf := T.bf
    refine r_expr (R := fun _ => True) (v_fn cg (p_require_same T) (d_require_same_prime T) (g_require_same_prime T) (a_d (v_var 0) (a_d (v_var 1) a_nil)) ⟨p, a, b, rfl, trivial⟩) ?_
    exact r_if (k := false) ((t_eqT (r2 := []) cg (v_sl cg (sc_Poly T) (sl_Poly_own_entries T) f_row (v_var 1)) (v_tupD a_nil)).is (decide_eq_false hb)) (fun h => nomatch h) fun _ => r_nil (r_nil hR)
end
end DL

namespace DL
open PySem PySem.Spec PyProof.Rows L2
section
variable {P : Program} {w : World} {K : PySem.W.Frag} {mg : Str → Option Value} {base : Heap}
theorem wf_last {p : Int} {r : List Int} (h : Wf p r) (hr : r ≠ []) : r.getLastD 0 ≠ 0 := by
  have := h.top
  rcases List.eq_nil_or_concat r with e | ⟨l, x, e⟩
  · exact absurd e hr
  · rw [e] at this ⊢
    simpa using this
/-! ### a op b -/
def S_bin (C : Int → List Int → List Int → Prop) (f : Int → List Int → List Int → List Int) : Sd := fun ds R => ∃ p a b, ds = [.poly p a, .poly p b] ∧ Wf p a ∧ Wf p b ∧ a.length ≤ 4000 ∧ b.length ≤ 4000 ∧ C p a b ∧ R (.poly p (f p a b))
abbrev CT : Int → List Int → List Int → Prop := fun _ _ _ => True
theorem p_Poly_add (T : Tx K mg) : FnA P w K mg base 8 (He.ma K (cP K) "__add__") (S_bin CT addP) :=
  fn_ok (N := ["self", "other"]) (ps := ["self", "other"]) (d_Poly___add__ T) (sc_of (by decide +kernel)) (fun _ _ _ _ _ _ us hl => match us, hl with | [_, _], _ => rfl) (fun _ _ ⟨_, _, _, e, _⟩ => e ▸ rfl) fun X cg hf ds R ⟨p, a, b, ed, wa, wb, la, lb, _, hR⟩ => by
    subst ed
    have bf := T.bf
    refine r_if (k := false) ((t_not (t_val (v_io cg (sc_Poly T) (si_Poly T) (ki_Poly_Poly T) (g_Poly T) i_poly (v_var 1)))).is rfl) (fun h => nomatch h) fun _ => r_nil ?_
    refine r_expr (R := fun _ => True) (v_fn cg (p_require_same T) (d_require_same_prime T) (g_require_same_prime T) (a_d (v_var 0) (a_d (v_var 1) a_nil)) ⟨p, a, b, rfl, trivial⟩) ?_
    refine r_ret (v_fn cg (p_made T) (d_made T) (g_made T) (a_d (v_sl cg (sc_Poly T) (sl_Poly_own_prime T) f_prime (v_var 0)) (a_d (v_fn cg (p_poly_sum T) (d_poly_sum T) (g_poly_sum T) (a_d (v_sl cg (sc_Poly T) (sl_Poly_own_prime T) f_prime (v_var 0)) (a_d (v_sl cg (sc_Poly T) (sl_Poly_own_entries T) f_row (v_var 0)) (a_d (v_sl cg (sc_Poly T) (sl_Poly_own_entries T) f_row (v_var 1)) a_nil))) ⟨p, a, b, _, rfl, .t, wa.prr.pos, by omega, by omega, rfl⟩) a_nil)) ⟨p, _, rfl, wa.prr, res_sumL wa.prr.pos wa.ress wb.ress, by rw [len_sumL]; omega, hR⟩)
theorem p_Poly_sub (T : Tx K mg) : FnA P w K mg base 8 (He.ma K (cP K) "__sub__") (S_bin CT subP) :=
  fn_ok (N := ["self", "other", "opposite"]) (ps := ["self", "other"]) (d_Poly___sub__ T) (sc_of (by decide +kernel)) (fun _ _ _ _ _ _ us hl => match us, hl with | [_, _], _ => rfl) (fun _ _ ⟨_, _, _, e, _⟩ => e ▸ rfl) fun X cg hf ds R ⟨p, a, b, ed, wa, wb, la, lb, _, hR⟩ => by
    subst ed
    have bf := T.bf
    refine r_if (k := false) ((t_not (t_val (v_io cg (sc_Poly T) (si_Poly T) (ki_Poly_Poly T) (g_Poly T) i_poly (v_var 1)))).is rfl) (fun h => nomatch h) fun _ => r_nil ?_
    refine r_expr (R := fun _ => True) (v_fn cg (p_require_same T) (d_require_same_prime T) (g_require_same_prime T) (a_d (v_var 0) (a_d (v_var 1) a_nil)) ⟨p, a, b, rfl, trivial⟩) ?_
    refine r_setD (d := .lst (rowD (oppL p b))) 2 cg (v_fn cg (p_poly_opposite T) (d_poly_opposite T) (g_poly_opposite T) (a_d (v_sl cg (sc_Poly T) (sl_Poly_own_prime T) f_prime (v_var 1)) (a_d (v_sl cg (sc_Poly T) (sl_Poly_own_entries T) f_row (v_var 1)) a_nil)) ⟨p, b, rfl, wa.prr.pos, by omega, rfl⟩) ?_
    have lo : (oppL p b).length = b.length := List.length_map ..
    refine r_ret (v_fn cg (p_made T) (d_made T) (g_made T) (a_d (v_sl cg (sc_Poly T) (sl_Poly_own_prime T) f_prime (v_var 0)) (a_d (v_fn cg (p_poly_sum T) (d_poly_sum T) (g_poly_sum T) (a_d (v_sl cg (sc_Poly T) (sl_Poly_own_prime T) f_prime (v_var 0)) (a_d (v_sl cg (sc_Poly T) (sl_Poly_own_entries T) f_row (v_var 0)) (a_d (v_var 2) a_nil))) ⟨p, a, oppL p b, _, rfl, .l, wa.prr.pos, by omega, by omega, rfl⟩) a_nil)) ⟨p, _, rfl, wa.prr, res_sumL wa.prr.pos wa.ress (res_oppL wa.prr.pos), by rw [len_sumL]; omega, hR⟩)
theorem p_Poly_mul (T : Tx K mg) : FnA P w K mg base 8 (He.ma K (cP K) "__mul__") (S_bin CT mulP) :=
  fn_ok (N := ["self", "other"]) (ps := ["self", "other"]) (d_Poly___mul__ T) (sc_of (by decide +kernel)) (fun _ _ _ _ _ _ us hl => match us, hl with | [_, _], _ => rfl) (fun _ _ ⟨_, _, _, e, _⟩ => e ▸ rfl) fun X cg hf ds R ⟨p, a, b, ed, wa, wb, la, lb, _, hR⟩ => by
    subst ed
    have bf := T.bf
    refine r_if (k := false) ((t_not (t_val (v_io cg (sc_Poly T) (si_Poly T) (ki_Poly_Poly T) (g_Poly T) i_poly (v_var 1)))).is rfl) (fun h => nomatch h) fun _ => r_nil ?_
    refine r_expr (R := fun _ => True) (v_fn cg (p_require_same T) (d_require_same_prime T) (g_require_same_prime T) (a_d (v_var 0) (a_d (v_var 1) a_nil)) ⟨p, a, b, rfl, trivial⟩) ?_
    refine r_ret (v_fn cg (p_made T) (d_made T) (g_made T) (a_d (v_sl cg (sc_Poly T) (sl_Poly_own_prime T) f_prime (v_var 0)) (a_d (v_fn cg (p_poly_product T) (d_poly_product T) (g_poly_product T) (a_d (v_sl cg (sc_Poly T) (sl_Poly_own_prime T) f_prime (v_var 0)) (a_d (v_sl cg (sc_Poly T) (sl_Poly_own_entries T) f_row (v_var 0)) (a_d (v_sl cg (sc_Poly T) (sl_Poly_own_entries T) f_row (v_var 1)) a_nil))) ⟨p, a, b, rfl, wa.prr.pos, by have := wa.prr.le; omega, wa.ress, wb.ress, by omega, by omega, rfl⟩) a_nil)) ⟨p, _, rfl, wa.prr, res_prodL wa.prr.pos, by rw [len_prodL]; omega, hR⟩)
abbrev CN : Int → List Int → List Int → Prop := fun _ _ b => b ≠ []
theorem p_Poly_quo (T : Tx K mg) : FnA P w K mg base 8 (He.ma K (cP K) "__floordiv__") (S_bin CN quoP) :=
  fn_ok (N := ["self", "other"]) (ps := ["self", "other"]) (d_Poly___floordiv__ T) (sc_of (by decide +kernel)) (fun _ _ _ _ _ _ us hl => match us, hl with | [_, _], _ => rfl) (fun _ _ ⟨_, _, _, e, _⟩ => e ▸ rfl) fun X cg hf ds R ⟨p, a, b, ed, wa, wb, la, lb, hb, hR⟩ => by
    subst ed
    have bf := T.bf
    refine r_if (k := false) ((t_not (t_val (v_io cg (sc_Poly T) (si_Poly T) (ki_Poly_Poly T) (g_Poly T) i_poly (v_var 1)))).is rfl) (fun h => nomatch h) fun _ => r_nil ?_
    refine r_expr (R := fun _ => True) (v_fn cg (p_require_divisor T) (d_require_divisor T) (g_require_divisor T) (a_d (v_var 0) (a_d (v_var 1) a_nil)) ⟨p, a, b, rfl, hb, trivial⟩) ?_
    refine r_ret (v_fn cg (p_made T) (d_made T) (g_made T) (a_d (v_sl cg (sc_Poly T) (sl_Poly_own_prime T) f_prime (v_var 0)) (a_d (d := .lst (rowD (divR p a b).2)) (v_item .t (v_fn cg (p_poly_divided T) (d_poly_divided T) (g_poly_divided T) (a_d (v_sl cg (sc_Poly T) (sl_Poly_own_prime T) f_prime (v_var 0)) (a_d (v_sl cg (sc_Poly T) (sl_Poly_own_entries T) f_row (v_var 0)) (a_d (v_sl cg (sc_Poly T) (sl_Poly_own_entries T) f_row (v_var 1)) a_nil))) ⟨p, a, b, rfl, wa.prr, wa.ress, wb.ress, hb, wf_last wb hb, by omega, by omega, rfl⟩) v_int rfl) a_nil)) ⟨p, _, rfl, wa.prr, (res_divR wa.prr.pos wa.ress).2, by rw [len_divR.2]; unfold quoN; omega, hR⟩)
theorem p_Poly_rem (T : Tx K mg) : FnA P w K mg base 8 (He.ma K (cP K) "__mod__") (S_bin CN remP) :=
  fn_ok (N := ["self", "other"]) (ps := ["self", "other"]) (d_Poly___mod__ T) (sc_of (by decide +kernel)) (fun _ _ _ _ _ _ us hl => match us, hl with | [_, _], _ => rfl) (fun _ _ ⟨_, _, _, e, _⟩ => e ▸ rfl) fun X cg hf ds R ⟨p, a, b, ed, wa, wb, la, lb, hb, hR⟩ => by
    subst ed
    have bf := T.bf
    refine r_if (k := false) ((t_not (t_val (v_io cg (sc_Poly T) (si_Poly T) (ki_Poly_Poly T) (g_Poly T) i_poly (v_var 1)))).is rfl) (fun h => nomatch h) fun _ => r_nil ?_
    refine r_expr (R := fun _ => True) (v_fn cg (p_require_divisor T) (d_require_divisor T) (g_require_divisor T) (a_d (v_var 0) (a_d (v_var 1) a_nil)) ⟨p, a, b, rfl, hb, trivial⟩) ?_
    refine r_ret (v_fn cg (p_made T) (d_made T) (g_made T) (a_d (v_sl cg (sc_Poly T) (sl_Poly_own_prime T) f_prime (v_var 0)) (a_d (d := .lst (rowD ((divR p a b).1.take (b.length - 1)))) (v_item .t (v_fn cg (p_poly_divided T) (d_poly_divided T) (g_poly_divided T) (a_d (v_sl cg (sc_Poly T) (sl_Poly_own_prime T) f_prime (v_var 0)) (a_d (v_sl cg (sc_Poly T) (sl_Poly_own_entries T) f_row (v_var 0)) (a_d (v_sl cg (sc_Poly T) (sl_Poly_own_entries T) f_row (v_var 1)) a_nil))) ⟨p, a, b, rfl, wa.prr, wa.ress, wb.ress, hb, wf_last wb hb, by omega, by omega, rfl⟩) v_int rfl) a_nil)) ⟨p, _, rfl, wa.prr, res_take (res_divR wa.prr.pos wa.ress).1, by rw [List.length_take, len_divR.1]; omega, hR⟩)
end
end DL

namespace DL
open PySem PySem.Spec PyProof.Rows L2
section
variable {P : Program} {w : World} {K : PySem.W.Frag} {mg : Str → Option Value} {base : Heap}
theorem p_Poly_neg (T : Tx K mg) : FnA P w K mg base 8 (He.ma K (cP K) "__neg__") (fun ds R => ∃ p a, ds = [.poly p a] ∧ Wf p a ∧ a.length ≤ 4000 ∧ R (.poly p (negP p a))) :=
  fn_ok (N := ["self"]) (ps := ["self"]) (d_Poly___neg__ T) (sc_of (by decide +kernel)) (fun _ _ _ _ _ _ us hl => match us, hl with | [_], _ => rfl) (fun _ _ ⟨_, _, e, _⟩ => e ▸ rfl) fun X cg hf ds R ⟨p, a, ed, wa, la, hR⟩ => by
    subst ed
    have bf := T.bf
    have lo : (oppL p a).length = a.length := List.length_map ..
    exact r_ret (v_fn cg (p_made T) (d_made T) (g_made T) (a_d (v_sl cg (sc_Poly T) (sl_Poly_own_prime T) f_prime (v_var 0)) (a_d (v_fn cg (p_poly_opposite T) (d_poly_opposite T) (g_poly_opposite T) (a_d (v_sl cg (sc_Poly T) (sl_Poly_own_prime T) f_prime (v_var 0)) (a_d (v_sl cg (sc_Poly T) (sl_Poly_own_entries T) f_row (v_var 0)) a_nil)) ⟨p, a, rfl, wa.prr.pos, by omega, rfl⟩) a_nil)) ⟨p, _, rfl, wa.prr, res_oppL wa.prr.pos, by omega, hR⟩)
theorem p_Poly_call (T : Tx K mg) : FnA P w K mg base 3 (He.ma K (cP K) "__call__") (fun ds R => ∃ p a x, ds = [.poly p a, .int x] ∧ Wf p a ∧ 0 ≤ x ∧ x < p ∧ R (.int (evalP p a x))) :=
  fn_ok (N := ["self", "residue", "found", "entry"]) (ps := ["self", "residue"]) (d_Poly___call__ T) (sc_of (by decide +kernel)) (fun _ _ _ _ _ _ us hl => match us, hl with | [_, _], _ => rfl) (fun _ _ ⟨_, _, _, e, _⟩ => e ▸ rfl) fun X cg hf ds R ⟨p, a, x, ed, wa, x0, x1, hR⟩ => by
    subst ed
    have bf := T.bf
    have h0 := wa.prr.pos
    have h1 := wa.prr.le
    refine r_if (k := false) ((t_not (t_val (v_fn cg (p_is_residue_of T) (d_is_residue_of T) (g_is_residue_of T) (a_d (v_sl cg (sc_Poly T) (sl_Poly_own_prime T) f_prime (v_var 0)) (a_d (v_var 1) a_nil)) ⟨p, x, rfl, rfl⟩))).is (by rw [decide_eq_true x0, decide_eq_true x1]; rfl)) (fun h => nomatch h) fun _ => r_nil ?_
    refine r_setD 2 cg v_int ?_
    refine r_forF (xs := a.reverse) (g := Dt.int) cg (by rw [← row_rev]; exact it_tup (v_revT (v_sl cg (sc_Poly T) (sl_Poly_own_entries T) f_row (v_var 0)))) (fun f => [.im (.poly p a), .im (.int x), .im (.int f), .no]) (fun f e => (f * x + e) % p) 0 (.eq (.eq (.eq (.eq .nil)))) (fun n q hq => ⟨tg_name 3 cg, ?_⟩) ?_
    · exact r_setD 2 cg (v_mod h0 (v_add (v_mul (.inr (small64 (by omega) (by omega))) (v_var 2) (v_var 1)) (v_var 3)) (v_sl cg (sc_Poly T) (sl_Poly_own_prime T) f_prime (v_var 0))) (r_nil (Le.eq (Le.eq (Le.eq (Le.no Le.nil)))))
    · exact r_retD (v_var 2) hR
theorem p_Poly_item (T : Tx K mg) : FnA P w K mg base 3 (He.ma K (cP K) "__getitem__") (fun ds R => ∃ p a k, ds = [.poly p a, .int k] ∧ 0 ≤ k ∧ k < 1000000 ∧ R (.int (getI a k.toNat))) :=
  fn_ok (N := ["self", "power"]) (ps := ["self", "power"]) (d_Poly___getitem__ T) (sc_of (by decide +kernel)) (fun _ _ _ _ _ _ us hl => match us, hl with | [_, _], _ => rfl) (fun _ _ ⟨_, _, _, e, _⟩ => e ▸ rfl) fun X cg hf ds R ⟨p, a, k, ed, k0, k1, hR⟩ => by
    subst ed
    have bf := T.bf
    have g1 : decide (-(10 ^ 60) < k) = true := decide_eq_true (by omega)
    have g2 : decide (k < 10 ^ 60) = true := decide_eq_true (by omega)
    refine r_if (k := false) ((t_w (w_or (t_not (t_val (v_fn cg (p_is_integer T) (d_is_integer T) (g_is_integer T) (a_d (v_var 1) a_nil) ⟨k, rfl, rfl⟩))) fun _ => w_or1 (t_lt (v_var 1) v_int))).is (by rw [g1, g2, decide_eq_false (by omega : ¬ k < 0)]; rfl)) (fun h => nomatch h) fun _ => r_nil ?_
    refine r_ret (v_ifExp (t_lt (v_var 1) (v_len .t (v_sl cg (sc_Poly T) (sl_Poly_own_entries T) f_row (v_var 0)))) (fun h => ?_) fun h => ?_)
    · have hk := of_decide_eq_true h
      rw [row_len] at hk
      refine (v_item .t (v_sl cg (sc_Poly T) (sl_Poly_own_entries T) f_row (v_var 0)) (v_var 1) (atI_is (m := k.toNat) (by omega) (by omega))).mono fun d ed => ?_
      cases ed
      exact hR
    · have hk := of_decide_eq_false h
      rw [row_len] at hk
      refine v_int.mono fun d ed => ?_
      cases ed
      unfold getI at hR
      rw [List.getElem?_eq_none (by omega)] at hR
      exact hR
def S_scl : Sd := fun ds R => ∃ p a c, ds = [.poly p a, .int c] ∧ Wf p a ∧ 0 ≤ c ∧ c < p ∧ a.length ≤ 10000 ∧ R (.poly p (sclP p c a))
theorem p_Poly_scaled (T : Tx K mg) : FnA P w K mg base 8 (He.ma K (cP K) "scaled") S_scl :=
  fn_ok (N := ["self", "residue", "entry"]) (ps := ["self", "residue"]) (d_Poly_scaled T) (sc_of (by decide +kernel)) (fun _ _ _ _ _ _ us hl => match us, hl with | [_, _], _ => rfl) (fun _ _ ⟨_, _, _, e, _⟩ => e ▸ rfl) fun X cg hf ds R ⟨p, a, c, ed, wa, c0, c1, la, hR⟩ => by
    subst ed
    have bf := T.bf
    have h0 := wa.prr.pos
    have h1 := wa.prr.le
    refine r_if (k := false) ((t_not (t_val (v_fn cg (p_is_residue_of T) (d_is_residue_of T) (g_is_residue_of T) (a_d (v_sl cg (sc_Poly T) (sl_Poly_own_prime T) f_prime (v_var 0)) (a_d (v_var 1) a_nil)) ⟨p, c, rfl, rfl⟩))).is (by rw [decide_eq_true c0, decide_eq_true c1]; rfl)) (fun h => nomatch h) fun _ => r_nil ?_
    refine r_ret (v_fn cg (p_made T) (d_made T) (g_made T) (a_d (v_sl cg (sc_Poly T) (sl_Poly_own_prime T) f_prime (v_var 0)) (a_d (d := .lst (rowD (a.map fun e => c * e % p))) ((v_lc cg (lc_map (xs := a) (gd := Dt.int) (f := fun e => .int (c * e % p)) [("entry", 2)] cg (by omega) (it_tup (v_sl cg (sc_Poly T) (sl_Poly_own_entries T) f_row (v_var 0))) fun XB cb e he => ⟨tg_name 2 cb, v_mod h0 (v_mul (.inl (small64 (by omega) (by omega))) (v_var 1) (v_var 2)) (v_sl cb (sc_Poly T) (sl_Poly_own_prime T) f_prime (v_var 0))⟩)).is (by rw [lst_map])) a_nil)) ⟨p, _, rfl, wa.prr, res_map h0, by rw [List.length_map]; omega, hR⟩)
def S_gpW (C : List Int → Prop) (f : Int → List Int → Dt) : Sd := fun ds R => ∃ p r, ds = [.poly p r] ∧ Wf p r ∧ r.length ≤ 10000 ∧ C r ∧ R (f p r)
theorem p_Poly_monic (T : Tx K mg) : FnA P w K mg base 9 (He.ma K (cP K) "monic") (S_gpW (fun r => r ≠ []) fun p r => .poly p (monP p r)) :=
  fn_ok (N := ["self"]) (ps := ["self"]) (d_Poly_monic T) (sc_of (by decide +kernel)) (fun _ _ _ _ _ _ us hl => match us, hl with | [_], _ => rfl) (fun _ _ ⟨_, _, e, _⟩ => e ▸ rfl) fun X cg hf ds R ⟨p, r, ed, wr, lr, hr, hR⟩ => by
    subst ed
    have bf := T.bf
    obtain ⟨l1, l2⟩ := wr.res _ (last_mem hr)
    have l3 := wf_last wr hr
    have lp : 0 < r.getLastD 0 := by omega
    obtain ⟨_, _, v1, v2⟩ := inv_ok wr.prr lp l2
    refine r_if (k := false) ((t_eqT (r2 := []) cg (v_sl cg (sc_Poly T) (sl_Poly_own_entries T) f_row (v_var 0)) (v_tupD a_nil)).is (decide_eq_false hr)) (fun h => nomatch h) fun _ => r_nil ?_
    replace hR : R (.poly p (monP p r)) := hR
    refine r_ret (v_ifExp (t_eqI (v_sl cg (sc_Poly T) (sl_Poly_own_lead T) f_lead (v_var 0)) v_int) (fun h => ?_) fun h => ?_)
    · refine (v_var 0).mono fun d ed => ?_
      cases ed
      unfold monP at hR
      rw [if_pos (of_decide_eq_true h)] at hR
      exact hR
    · unfold monP at hR
      rw [if_neg (of_decide_eq_false h)] at hR
      exact v_meth cg (sc_Poly T) (mm_Poly_scaled T) (p_Poly_scaled T) (by decide) i_poly (v_var 0) (a_d (v_fn cg (p_poly_inverse T) (d_poly_inverse T) (g_poly_inverse T) (a_d (v_sl cg (sc_Poly T) (sl_Poly_own_prime T) f_prime (v_var 0)) (a_d (v_sl cg (sc_Poly T) (sl_Poly_own_lead T) f_lead (v_var 0)) a_nil)) ⟨p, _, rfl, wr.prr, lp, l2, rfl⟩) a_nil) fun ds e => ⟨p, r, invI p (r.getLastD 0), by rw [e], wr, by omega, v2, lr, hR⟩
theorem p_Poly_derv (T : Tx K mg) : FnA P w K mg base 8 (He.ma K (cP K) "derivative") (S_gpW (fun _ => True) fun p r => .poly p (dervP p r)) :=
  fn_ok (N := ["self", "row", "power", "entry"]) (ps := ["self"]) (d_Poly_derivative T) (sc_of (by decide +kernel)) (fun _ _ _ _ _ _ us hl => match us, hl with | [_], _ => rfl) (fun _ _ ⟨_, _, e, _⟩ => e ▸ rfl) fun X cg hf ds R ⟨p, r, ed, wr, lr, _, hR⟩ => by
    subst ed
    have bf := T.bf
    have h0 := wr.prr.pos
    have h1 := wr.prr.le
    refine r_setLc 1 cg (lc_map (xs := r.zipIdx) (gd := fun q => .tup [.int (q.2 : Nat), .int q.1]) (f := fun q => .int ((q.2 : Int) * q.1 % p)) [("power", 2), ("entry", 3)] cg (by rw [List.length_zipIdx]; omega) (by rw [← enumD_row]; exact it_enum .t (v_sl cg (sc_Poly T) (sl_Poly_own_entries T) f_row (v_var 0))) fun XB cb q hq => ⟨tg_tup cb (tp_cons 2 cb (tp_cons 3 cb tp_nil)), ?_⟩) ?_
    · obtain ⟨n, hn, e⟩ := List.mem_iff_getElem.mp hq
      have h2 : r.zipIdx[n]? = some q := by rw [List.getElem?_eq_getElem hn, e]
      obtain ⟨e2, h3, h4⟩ := zipIdx_at h2
      exact v_mod h0 (v_mul (.inl (small64 (by omega) (by omega))) (v_var 2) (v_var 3)) (v_sl cb (sc_Poly T) (sl_Poly_own_prime T) f_prime (v_var 0))
    · rw [lst_map]
      refine r_freeze 1 rfl ?_
      have hle : (r.zipIdx.map fun q => (q.2 : Int) * q.1 % p).length ≤ 10000 := by rw [List.length_map, List.length_zipIdx]; exact lr
      refine r_ret (v_fn cg (p_made T) (d_made T) (g_made T) (a_d (v_sl cg (sc_Poly T) (sl_Poly_own_prime T) f_prime (v_var 0)) (a_d (d := .lst (rowD ((r.zipIdx.map fun q => (q.2 : Int) * q.1 % p).drop 1))) ((v_slL (v_var 1) (o_some v_int) o_none).is ?_) a_nil)) ⟨p, (r.zipIdx.map fun q => (q.2 : Int) * q.1 % p).drop 1, rfl, wr.prr, fun x hx => res_map (f := fun q : Int × Nat => (q.2 : Int) * q.1) h0 x (List.mem_of_mem_drop hx), by rw [List.length_drop]; omega, hR⟩)
      by_cases hz : 1 ≤ (r.zipIdx.map fun q => (q.2 : Int) * q.1 % p).length
      · rw [show (1 : Int) = ((1 : Nat) : Int) from rfl, cutD_from hz]
      · have : (r.zipIdx.map fun q => (q.2 : Int) * q.1 % p) = [] := List.eq_nil_of_length_eq_zero (by omega)
        rw [this]
        rfl
def S_peq : Sd := fun ds R => ∃ p a b, ds = [.poly p a, .poly p b] ∧ R (.bl (decide (a = b)))
theorem p_Poly_eq (T : Tx K mg) : FnA P w K mg base 1 (He.ma K (cP K) "__eq__") S_peq :=
  fn_ok (N := ["self", "other"]) (ps := ["self", "other"]) (d_Poly___eq__ T) (sc_of (by decide +kernel)) (fun _ _ _ _ _ _ us hl => match us, hl with | [_, _], _ => rfl) (fun _ _ ⟨_, _, _, e, _⟩ => e ▸ rfl) fun X cg hf ds R ⟨p, a, b, ed, hR⟩ => by
    subst ed
    have bf := T.bf
    refine r_if (k := false) ((t_not (t_val (v_io cg (sc_Poly T) (si_Poly T) (ki_Poly_Poly T) (g_Poly T) i_poly (v_var 1)))).is rfl) (fun h => nomatch h) fun _ => r_nil ?_
    refine r_retD ((v_and (v_eqI (v_sl cg (sc_Poly T) (sl_Poly_own_prime T) f_prime (v_var 0)) (v_sl cg (sc_Poly T) (sl_Poly_own_prime T) f_prime (v_var 1))) fun _ => v_one (v_eqT cg (v_sl cg (sc_Poly T) (sl_Poly_own_entries T) f_row (v_var 0)) (v_sl cg (sc_Poly T) (sl_Poly_own_entries T) f_row (v_var 1)))).is (by rw [decide_eq_true rfl, Bool.true_and])) hR
def S_pstr : Sd := fun ds R => ∃ p r, ds = [.poly p r] ∧ r.length ≤ 10000 ∧ ∀ s : Str, s.length ≤ 16 * r.length + 16 → R (.str s)
theorem p_Poly_str (T : Tx K mg) : FnA P w K mg base 1 (He.ma K (cP K) "__str__") S_pstr :=
  fn_ok (N := ["self"]) (ps := ["self"]) (d_Poly___str__ T) (sc_of (by decide +kernel)) (fun _ _ _ _ _ _ us hl => match us, hl with | [_], _ => rfl) (fun _ _ ⟨_, _, e, _⟩ => e ▸ rfl) fun X cg hf ds R ⟨p, r, ed, lr, hR⟩ => by
    subst ed
    have bf := T.bf
    refine r_ret ((v_joined1 (v_fmtS (A := fun s => s.length ≤ 16 * r.length + 16) (fun s h => by omega) (v_sl cg (sc_Poly T) (sl_Poly_own_text T) f_text (v_var 0)))).mono fun d ⟨s, e, hs⟩ => ?_)
    subst e
    exact hR s hs
end
end DL

namespace DL
theorem len_remP {p : Int} {a b : List Int} (hb : b ≠ []) : (remP p a b).length < b.length := by
  have h := trim_len ((divR p a b).1.take (b.length - 1))
  have hl : 0 < b.length := List.length_pos_iff.mpr hb
  rw [List.length_take] at h
  unfold remP
  omega
/-- Euclid's walk -/
def gcdF (p : Int) : Nat → List Int → List Int → List Int
  | 0, a, _ => a
  | n + 1, a, b => if b = [] then a else gcdF p n b (remP p a b)
def gcdP (p : Int) (a b : List Int) : List Int := gcdF p b.length a b
def monZ (p : Int) (r : List Int) : List Int := if r = [] then r else monP p r
end DL

namespace DL
open PySem PySem.Spec PyProof.Rows L2
section
variable {X : Cx} {a b c : Expr} {x y z : Str} {px py pz pt pt2 : Pos} {kt k2 : Nat} {P : Program} {w : World} {K : PySem.W.Frag} {mg : Str → Option Value} {base : Heap} {k : Nat} {N : List Str} {sc : Scope}
theorem Cg.kd (cg : Cg P w K mg base k N sc X) {kn : NameKind} (h : sc.names.lookup x = some kn) : X.env.kindOf x = some kn := by
  unfold Env.kindOf
  rw [cg.scp]
  exact h
theorem Cg.bk (cg : Cg P w K mg base k N sc X) (h : sc.kind = .function) : X.env.blockKind = .function := by
  unfold Env.blockKind
  rw [cg.scp, h]
  rfl
/-- an environment of the scope alone -/
abbrev envS (sc : Scope) : Env := envOfC Str.empty sc 0 0 .none
theorem Cg.sw {ts : List Expr} {v : Expr} (cg : Cg P w K mg base k N sc X) {r : Sem (Option (List Str))} (h : swappedStores ts v (envS sc) = r) : swappedStores ts v X.env = r := by
  rw [← h]
  have e1 : X.env.kindOf = (envS sc).kindOf := by
    funext x
    unfold Env.kindOf
    rw [cg.scp]
    rfl
  have e2 : X.env.blockKind = (envS sc).blockKind := by
    unfold Env.blockKind
    rw [cg.scp]
    rfl
  unfold swappedStores
  rw [e1, e2]
variable {δ : List Sl} {D : DEnds} {rest : List Stmt} {s1 s2 : Sl} {pos : Pos}
theorem Cg.lk (cg : Cg P w K mg base k N sc X) {kn : NameKind} (h : sc.names.lookup x = some kn) : X.env.scope.names.lookup x = some kn := by
  rw [cg.scp]
  exact h
/-- a, b = e1, e2 with plain local names -/
theorem r_par2 (n m : Nat) (cg : Cg P w K mg base k N sc X) (h : EvS X δ [a, b] [s1, s2]) (kk : RunS X ((δ.set n s1).set m s2) rest D) (hn : N[n]? = some x := by rfl) (hm : N[m]? = some y := by rfl) (hx : sc.names.lookup x = some .local := by rfl) (hy : sc.names.lookup y = some .local := by rfl) (hnm : n ≠ m := by decide)
    (hl : n < δ.length ∧ m < δ.length := by exact ⟨of_decide_eq_true rfl, of_decide_eq_true rfl⟩) (hw : swappedStores [.Tuple [.Name x px, .Name y py] kt pt] (.Tuple [a, b] k2 pt2) (envS sc) = pure (some [x, y]) := by rfl)
    (hs : swapsWithSole [.Tuple [.Name x px, .Name y py] kt pt] (.Tuple [a, b] k2 pt2) pos.line X.env = pure false := by rfl) : RunS X δ (.Assign [.Tuple [.Name x px, .Name y py] kt pt] (.Tuple [a, b] k2 pt2) pos :: rest) D :=
  r_par cg h (cg.na hn) (cg.na hm) (cg.lk hx) (cg.lk hy) hnm kk hl (cg.sw hw) hs
variable {da db : Dt} {C g : Addr} {m : Str} {op : Operator} {n : Nat} {S : Sd} {R : Dt → Prop}
/-- a op b by an own def -/
theorem v_bo (cg : Cg P w K mg base k N sc X) (sf : PySem.W.selfFirst K C = true) (hm : Meth K C m g) (F : FnA P w K mg base n g S) (ia : InsD K C da) (ib : InsD K C db) (ha : EvD X δ a da) (hb : EvD X δ b db) (h : S [da, db] R) (hd : PySem.dunder op.info.2 = m := by decide +kernel) (hn : n ≤ k := by decide) : EvE X δ (.BinOp a op b pos) R :=
  v_binO cg sf (by rw [hd]; exact hm.at_) hm.fn F hn ia ib ha hb h
end
section
variable {P : Program} {w : World} {K : PySem.W.Frag} {mg : Str → Option Value} {base : Heap}
theorem wf_remP {p : Int} {a b : List Int} (wa : Wf p a) : Wf p (remP p a b) := wf_trim wa.prr (res_take (res_divR wa.prr.pos wa.ress).1)
theorem wf_monP {p : Int} {r : List Int} (w : Wf p r) : Wf p (monP p r) := by
  unfold monP
  split
  · exact w
  · exact wf_trim w.prr (res_map w.prr.pos)
theorem p_monic_or_zero (T : Tx K mg) : FnA P w K mg base 11 (He.ga K "monic_or_zero") (S_gpW (fun _ => True) fun p r => .poly p (monZ p r)) :=
  fn_ok (N := ["poly"]) (ps := ["poly"]) (d_monic_or_zero T) (sc_of (by decide +kernel)) (fun _ _ _ _ _ _ us hl => match us, hl with | [_], _ => rfl) (fun _ _ ⟨_, _, e, _⟩ => e ▸ rfl) fun X cg hf ds R ⟨p, r, ed, wr, lr, _, hR⟩ => by
    subst ed
    have bf := T.bf
    replace hR : R (.poly p (monZ p r)) := hR
    refine r_ret (v_ifExp (t_val (v_pr cg (sc_Poly T) (pp_Poly_is_zero T) (p_Poly_is_zero T) i_poly ⟨p, r, rfl, rfl⟩ (v_var 0))) (fun h => ?_) fun h => ?_)
    · refine (v_var 0).mono fun d ed => ?_
      cases ed
      unfold monZ at hR
      rw [if_pos (of_decide_eq_true h)] at hR
      exact hR
    · unfold monZ at hR
      rw [if_neg (of_decide_eq_false h)] at hR
      exact v_meth0 cg (sc_Poly T) (mm_Poly_monic T) (p_Poly_monic T) (by decide) i_poly (v_var 0) ⟨p, r, rfl, wr, lr, of_decide_eq_false h, hR⟩
def S_gcd : Sd := fun ds R => ∃ p a b, ds = [.poly p a, .poly p b] ∧ Wf p a ∧ Wf p b ∧ a.length ≤ 4000 ∧ b.length ≤ 4000 ∧ R (.poly p (monZ p (gcdP p a b)))
theorem p_common_of (T : Tx K mg) : FnA P w K mg base 12 (He.ga K "common_of") S_gcd :=
  fn_ok (N := ["one", "other"]) (ps := ["one", "other"]) (d_common_of T) (sc_of (by decide +kernel)) (fun _ _ _ _ _ _ us hl => match us, hl with | [_, _], _ => rfl) (fun _ _ ⟨_, _, _, e, _⟩ => e ▸ rfl) fun X cg hf ds R ⟨p, a, b, ed, wa, wb, la, lb, hR⟩ => by
    subst ed
    have bf := T.bf
    refine r_while cg (fun m δ' => ∃ a' b', δ' = [.im (.poly p a'), .im (.poly p b')] ∧ Wf p a' ∧ Wf p b' ∧ a'.length ≤ 4000 ∧ b'.length ≤ 4000 ∧ b'.length ≤ m ∧ gcdF p m a' b' = gcdP p a b) b.length ⟨a, b, rfl, wa, wb, la, lb, Nat.le_refl _, rfl⟩ fun m δ' ⟨a', b', e, wa', wb', la', lb', hm, hg⟩ => ?_
    subst e
    refine ⟨_, t_not (t_val (v_pr cg (sc_Poly T) (pp_Poly_is_zero T) (p_Poly_is_zero T) i_poly ⟨p, b', rfl, rfl⟩ (v_var 1))), fun h => ?_, fun h => ?_⟩
    · have hb : b' ≠ [] := by simpa using h
      have hl := len_remP (p := p) (a := a') hb
      match m, hm, hg with
      | 0, hm, hg => exact absurd (List.eq_nil_of_length_eq_zero (by omega)) hb
      | m + 1, hm, hg =>
        refine r_par2 0 1 cg (s_im (v_var 1) (s_im (d := .poly p (remP p a' b')) (v_bo cg (sf_Poly T) (mm_Poly___mod__ T) (p_Poly_rem T) i_poly i_poly (v_var 0) (v_var 1) ⟨p, a', b', rfl, wa', wb', la', lb', hb, rfl⟩) s_nil)) (r_nil ⟨m, Nat.lt_succ_self _, b', remP p a' b', rfl, wb', wf_remP wa', lb', by omega, by omega, ?_⟩)
        rw [← hg]
        show _ = if b' = [] then a' else gcdF p m b' (remP p a' b')
        rw [if_neg hb]
    · have hb : b' = [] := by simpa using h
      have e : gcdP p a b = a' := by
        rw [← hg]
        cases m with
        | zero => rfl
        | succ m =>
          show (if b' = [] then a' else _) = _
          rw [if_pos hb]
      rw [e] at hR
      exact r_ret (v_fn cg (p_monic_or_zero T) (d_monic_or_zero T) (g_monic_or_zero T) (a_d (v_var 0) a_nil) ⟨p, a', rfl, wa', by omega, trivial, hR⟩)
end
end DL

namespace DL
open PySem PySem.Spec PyProof.Rows L2
section
variable {P : Program} {w : World} {K : PySem.W.Frag} {mg : Str → Option Value} {base : Heap}
theorem wf_dervP {p : Int} {r : List Int} (w : Wf p r) : Wf p (dervP p r) := wf_trim w.prr fun x hx => res_map (f := fun q : Int × Nat => (q.2 : Int) * q.1) w.prr.pos x (List.mem_of_mem_drop hx)
theorem len_dervP {p : Int} {r : List Int} : (dervP p r).length ≤ r.length := by
  have h := trim_len ((r.zipIdx.map fun q => (q.2 : Int) * q.1 % p).drop 1)
  rw [List.length_drop, List.length_map, List.length_zipIdx] at h
  unfold dervP
  omega
def freeP (p : Int) (r : List Int) : Bool := decide (((monZ p (gcdP p r (dervP p r))).length : Int) - 1 = 0)
theorem p_is_square_free (T : Tx K mg) : FnA P w K mg base 13 (He.ga K "is_square_free") (fun ds R => ∃ p r, ds = [.poly p r] ∧ Wf p r ∧ r ≠ [] ∧ r.length ≤ 4000 ∧ R (.bl (freeP p r))) :=
  fn_ok (N := ["poly"]) (ps := ["poly"]) (d_is_square_free T) (sc_of (by decide +kernel)) (fun _ _ _ _ _ _ us hl => match us, hl with | [_], _ => rfl) (fun _ _ ⟨_, _, e, _⟩ => e ▸ rfl) fun X cg hf ds R ⟨p, r, ed, wr, hr, lr, hR⟩ => by
    subst ed
    have bf := T.bf
    have ld := len_dervP (p := p) (r := r)
    refine r_expr (R := fun _ => True) (v_fn cg (p_require_poly T) (d_require_poly T) (g_require_poly T) (a_d (v_var 0) a_nil) ⟨p, r, rfl, trivial⟩) ?_
    refine r_if (k := false) ((t_val (v_pr cg (sc_Poly T) (pp_Poly_is_zero T) (p_Poly_is_zero T) i_poly ⟨p, r, rfl, rfl⟩ (v_var 0))).is (decide_eq_false hr)) (fun h => nomatch h) fun _ => r_nil ?_
    refine r_retD (v_eqI (v_pr (d := .poly p (monZ p (gcdP p r (dervP p r)))) cg (sc_Poly T) (pp_Poly_degree T) (p_Poly_degree T) i_poly ⟨p, _, rfl, rfl⟩ (v_fn cg (p_common_of T) (d_common_of T) (g_common_of T) (a_d (v_var 0) (a_d (d := .poly p (dervP p r)) (v_meth0 cg (sc_Poly T) (mm_Poly_derivative T) (p_Poly_derv T) (by decide) i_poly (v_var 0) ⟨p, r, rfl, wr, by omega, trivial, rfl⟩) a_nil)) ⟨p, r, dervP p r, rfl, wr, wf_dervP wr, lr, by omega, rfl⟩)) v_int) hR
/-! ### curves -/
theorem range_of {n : Nat} : rangeD 0 1 n = (List.range n).map Int.ofNat := by
  unfold rangeD
  apply List.map_congr_left
  intro i _
  show (0 : Int) + (i : Int) * 1 = (i : Int)
  omega
def S_roots : Sd := fun ds R => ∃ p c, ds = [.int p, .int c] ∧ Pr p ∧ R (.lst (rowD (rootsOf p c)))
theorem p_square_roots (T : Tx K mg) : FnA P w K mg base 1 (He.ga K "square_roots") S_roots :=
  fn_ok (N := ["prime", "number", "one"]) (ps := ["prime", "number"]) (d_square_roots T) (sc_of (by decide +kernel)) (fun _ _ _ _ _ _ us hl => match us, hl with | [_, _], _ => rfl) (fun _ _ ⟨_, _, e, _⟩ => e ▸ rfl) fun X cg hf ds R ⟨p, c, ed, hp, hR⟩ => by
    subst ed
    have bf := T.bf
    have a1 := hp.pos
    have a2 := hp.le
    refine r_ret ((v_lc cg (lc_filter (xs := rangeD 0 1 p.toNat) (gd := Dt.int) (f := Dt.int) (p := fun o => decide (o * o % p = c)) [("one", 2)] cg (by rw [rangeD_l]; omega) (it_range1 (v_var 0) (range62 (by omega) (by omega))) fun XB cb a ha =>
      ⟨tg_name 2 cb, t_eqI (v_mod a1 (v_mul (.inl (small64 (by have := (mem_range1 ha).1; omega) (by have := (mem_range1 ha).2; omega))) (v_var 2) (v_var 2)) (v_var 0)) (v_var 1), fun _ => v_var 2⟩)).mono fun d ed => ?_)
    cases ed
    show R (.lst (((rangeD 0 1 p.toNat).filter fun o => decide (o * o % p = c)).map Dt.int))
    rw [range_of]
    exact hR
/-- of even degree, the lead a square -/
def Two (p : Int) (f : List Int) : Prop := f.length % 2 = 1 ∧ rootsOf p (f.getLastD 0) ≠ []
theorem p_kind_in (T : Tx K mg) : FnA P w K mg base 3 (He.ga K "kind_in") (fun ds R => ∃ p f, ds = [.poly p f] ∧ Wf p f ∧ Two p f ∧ R (.str "two")) :=
  fn_ok (N := ["poly"]) (ps := ["poly"]) (d_kind_in T) (sc_of (by decide +kernel)) (fun _ _ _ _ _ _ us hl => match us, hl with | [_], _ => rfl) (fun _ _ ⟨_, _, e, _⟩ => e ▸ rfl) fun X cg hf ds R ⟨p, f, ed, wf, ht, hR⟩ => by
    subst ed
    have bf := T.bf
    refine r_if (k := false) ((t_eqI (v_mod (by decide) (v_pr cg (sc_Poly T) (pp_Poly_degree T) (p_Poly_degree T) i_poly ⟨p, f, rfl, rfl⟩ (v_var 0)) v_int) v_int).is (decide_eq_false (by have := ht.1; omega))) (fun h => nomatch h) fun _ => r_nil ?_
    refine r_ret (v_ifExp (k := true) ((t_neL (r2 := []) cg (v_fn cg (p_square_roots T) (d_square_roots T) (g_square_roots T) (a_d (v_pr cg (sc_Poly T) (pp_Poly_prime T) (p_Poly_prime T) i_poly ⟨p, f, rfl, rfl⟩ (v_var 0)) (a_d (v_pr cg (sc_Poly T) (pp_Poly_lead T) (p_Poly_lead T) i_poly ⟨p, f, rfl, rfl⟩ (v_var 0)) a_nil)) ⟨p, _, rfl, wf.prr, rfl⟩) (v_L (l_lst a_nil))).is (by rw [decide_eq_false ht.2]; rfl)) (fun _ => ?_) fun h => nomatch h)
    refine (v_gs cg (g_TWO T)).mono fun d ed => ?_
    cases ed
    exact hR
theorem p_rims_in (T : Tx K mg) : FnA P w K mg base 3 (He.ga K "rims_in") (fun ds R => ∃ p f, ds = [.poly p f, .str "two"] ∧ Wf p f ∧ Two p f ∧ R (rimsD p f)) :=
  fn_ok (N := ["poly", "kind", "root"]) (ps := ["poly", "kind"]) (d_rims_in T) (sc_of (by decide +kernel)) (fun _ _ _ _ _ _ us hl => match us, hl with | [_, _], _ => rfl) (fun _ _ ⟨_, _, e, _⟩ => e ▸ rfl) fun X cg hf ds R ⟨p, f, ed, wf, ht, hR⟩ => by
    subst ed
    have bf := T.bf
    refine r_if (k := true) ((t_eqS (v_var 1) (v_gs cg (g_TWO T))).is (decide_eq_true rfl)) (fun _ => ?_) fun h => nomatch h
    refine r_ret ((v_tuple .l (v_lc cg (lc_map (xs := rootsOf p (f.getLastD 0)) (gd := Dt.int) (f := fun r => .tup [.str "rim", .int r]) [("root", 2)] cg ?_ (it_list (v_fn cg (p_square_roots T) (d_square_roots T) (g_square_roots T) (a_d (v_pr cg (sc_Poly T) (pp_Poly_prime T) (p_Poly_prime T) i_poly ⟨p, f, rfl, rfl⟩ (v_var 0)) (a_d (v_pr cg (sc_Poly T) (pp_Poly_lead T) (p_Poly_lead T) i_poly ⟨p, f, rfl, rfl⟩ (v_var 0)) a_nil)) ⟨p, _, rfl, wf.prr, rfl⟩)) fun XB cb a ha =>
      ⟨tg_name 2 cb, v_tupD (a_d (v_gs cb (g_RIM T)) (a_d (v_var 2) a_nil))⟩))).mono fun d ed => ?_)
    · unfold rootsOf
      refine Nat.le_trans (List.length_filter_le _ _) ?_
      rw [List.length_map, List.length_range]
      have := wf.prr.le
      omega
    · cases ed
      exact hR
end
end DL

namespace DL
open PySem PySem.Spec PyProof.Rows L2
section
variable {X : Cx} {δ : List Sl} {a b c : Expr} {pos : Pos} {ds : List Dt}
theorem l_ifExp {k : Bool} (h : EvT X δ c k) (h1 : k = true → EvL X δ a ds) (h2 : k = false → EvL X δ b ds) : EvL X δ (.IfExp c a b pos) ds := fun M0 M H0 σ H g =>
  tev_of (pe_ifExp pt_tet pe_tev pe_tev) (tet_mono (h M0 M H0 σ H g) fun q H1 ⟨e1, ec⟩ => by
    subst ec
    cases q with
    | true =>
      rw [if_pos rfl]
      exact tev_mono (h1 rfl M0 M H0 σ H1 (g.grow e1)) fun v H2 ⟨l, xs, H3, ev, e2, r⟩ => ⟨l, xs, H3, ev, e1.trans e2, r⟩
    | false =>
      rw [if_neg (fun z => by cases z)]
      exact tev_mono (h2 rfl M0 M H0 σ H1 (g.grow e1)) fun v H2 ⟨l, xs, H3, ev, e2, r⟩ => ⟨l, xs, H3, ev, e1.trans e2, r⟩)
end
section
variable {P : Program} {w : World} {K : PySem.W.Frag} {mg : Str → Option Value} {base : Heap}
def ptD (e : Int) (ds : List Dt) (r : Int) : List Dt := ds ++ [.tup [.tup [.int e, .int 1], .tup (if r = 0 then [] else [.int r])]]
def ptsD (p : Int) (f : List Int) (ds : List Dt) (e : Int) : List Dt := (rootsOf p (evalP p f (-e % p))).foldl (ptD e) ds
theorem ptD_len (e : Int) : ∀ (l : List Int) (ds : List Dt), (l.foldl (ptD e) ds).length = ds.length + l.length
  | [], ds => rfl
  | r :: l, ds => by
    rw [List.foldl_cons, ptD_len e l]
    unfold ptD
    simp only [List.length_append, List.length_cons, List.length_nil]
    omega
theorem roots_len {p c : Int} (hp : Pr p) : (rootsOf p c).length ≤ 7 := by
  unfold rootsOf
  refine Nat.le_trans (List.length_filter_le _ _) ?_
  rw [List.length_map, List.length_range]
  have := hp.le
  omega
theorem ptsD_len {p : Int} {f : List Int} (hp : Pr p) : ∀ (l : List Int) (ds : List Dt), (l.foldl (ptsD p f) ds).length ≤ ds.length + 7 * l.length
  | [], ds => by simp
  | e :: l, ds => by
    rw [List.foldl_cons]
    have h := ptsD_len (f := f) hp l (ptsD p f ds e)
    have h2 : (ptsD p f ds e).length ≤ ds.length + 7 := by
      unfold ptsD
      rw [ptD_len]
      have := roots_len (c := evalP p f (-e % p)) hp
      omega
    rw [List.length_cons]
    omega
theorem p_points_in (T : Tx K mg) : FnA P w K mg base 4 (He.ga K "points_in") (fun ds R => ∃ p f l, ds = [.poly p f, .tup l, .str "two"] ∧ Wf p f ∧ l.length ≤ 100 ∧ ∀ l2, R (.tup l2)) :=
  fn_ok (N := ["poly", "rims", "kind", "found", "prime", "entry", "root"]) (ps := ["poly", "rims", "kind"]) (d_points_in T) (sc_of (by decide +kernel)) (fun _ _ _ _ _ _ us hl => match us, hl with | [_, _, _], _ => rfl) (fun _ _ ⟨_, _, _, e, _⟩ => e ▸ rfl) fun X cg hf ds R ⟨p, f, l, ed, wf, ll, hR⟩ => by
    subst ed
    have bf := T.bf
    have h0 := wf.prr.pos
    have h1 := wf.prr.le
    refine r_par2 3 4 cg (s_mu (l_ifExp (k := true) ((t_neS (v_var 2) (v_gs cg (g_NONE T))).is (by decide +kernel)) (fun _ => l_list .t (v_var 1)) fun h => nomatch h) (s_im (v_pr cg (sc_Poly T) (pp_Poly_prime T) (p_Poly_prime T) i_poly ⟨p, f, rfl, rfl⟩ (v_var 0)) s_nil)) ?_
    let st : List Dt → List Sl := fun q => [.im (.poly p f), .im (.tup l), .im (.str "two"), .mu q, .im (.int p), .no, .no]
    refine r_forF (xs := rangeD 0 1 p.toNat) (g := Dt.int) cg (it_range1 (v_var 4) (range62 (by omega) (by omega))) st (ptsD p f) l Le.rfl (fun n e he => ⟨tg_name 5 cg, ?_⟩) ?_
    · generalize hq : ((rangeD 0 1 p.toNat).take n).foldl (ptsD p f) l = q0
      have l0 : q0.length ≤ 1000 := by
        rw [← hq]
        have h := ptsD_len (f := f) wf.prr ((rangeD 0 1 p.toNat).take n) l
        rw [List.length_take, rangeD_len] at h
        omega
      let st2 : List Dt → List Sl := fun q => [.im (.poly p f), .im (.tup l), .im (.str "two"), .mu q, .im (.int p), .im (.int e), .no]
      have hx : 0 ≤ -e % p ∧ -e % p < p := mod_res h0 _
      refine r_forF (xs := rootsOf p (evalP p f (-e % p))) (g := Dt.int) cg (it_list (v_fn cg (p_square_roots T) (d_square_roots T) (g_square_roots T) (a_d (v_var 4) (a_d (v_callO cg ⟨(mm_Poly___call__ T).at_, (mm_Poly___call__ T).fn, fi_call T⟩ (p_Poly_call T) (by decide) i_poly (v_var 0) (a_d (v_mod h0 (v_neg (v_var 5)) (v_var 4)) a_nil) fun ds e => ⟨p, f, _, by rw [e], wf, hx.1, hx.2, rfl⟩) a_nil)) ⟨p, _, rfl, wf.prr, rfl⟩)) st2 (ptD e) q0 Le.rfl (fun m r hr => ⟨tg_name 6 cg, ?_⟩) ?_
      · have l1 : (((rootsOf p (evalP p f (-e % p))).take m).foldl (ptD e) q0).length ≤ 2000 := by
          rw [ptD_len, List.length_take]
          have := roots_len (c := evalP p f (-e % p)) wf.prr
          omega
        refine r_append 3 (R := is_ (.tup [.tup [.int e, .int 1], .tup (if r = 0 then [] else [.int r])])) (v_tupD (a_d (v_tupD (a_d (v_var 5) (a_d v_int a_nil))) (a_d (v_ifExp (t_neI (v_var 6) v_int) (fun h => ?_) fun h => ?_) a_nil))) rfl (by omega) fun d hd => r_nil ?_
        · have hz : r ≠ 0 := by simpa using h
          exact (v_tupD (a_d (v_var 6) a_nil)).is (by rw [if_neg hz])
        · have hz : r = 0 := by simpa using h
          exact (v_tupD a_nil).is (by rw [if_pos hz])
        · cases hd
          exact .eq (.eq (.eq (.eq (.eq (.eq (.no .nil))))))
      · exact r_nil (.eq (.eq (.eq (.eq (.eq (.no (.eq .nil)))))))
    · exact r_retD (v_tupM 3 rfl) (hR _)
end
end DL

namespace DL
open PySem PySem.Spec PyProof.Rows L2
section
variable {P : Program} {w : World} {K : PySem.W.Frag} {mg : Str → Option Value} {base : Heap}
theorem rep0_rims {p : Int} {f : List Int} {v : V} {H : Hp} (h : rep K (rimsD p f) v H) : rep0 K (rimsD p f) v H := by
  unfold rimsD at h ⊢
  obtain ⟨a, xs, h1, h2, h3⟩ := rep_tup.mp h
  have key : ∀ (l : List Int) (xs : List V), reps K (l.map fun r => Dt.tup [.str "rim", .int r]) xs H → repsG (fun _ _ _ => False) K (l.map fun r => Dt.tup [.str "rim", .int r]) xs H := fun l => by
    induction l with
    | nil =>
      intro xs q
      rw [List.map_nil] at q ⊢
      rw [reps_nil.mp q]
      simp only [repsG]
    | cons r l ih =>
      intro xs q
      rw [List.map_cons] at q ⊢
      obtain ⟨x, ys, rfl, q1, q2⟩ := reps_cons.mp q
      obtain ⟨b, zs, rfl, q3, q4⟩ := rep_tup.mp q1
      obtain ⟨y, u, rfl, q5, q6⟩ := two_of q4
      rw [rep_str.mp q5, rep_int.mp q6] at q3
      simp only [repsG, repG]
      exact ⟨_, ys, rfl, ⟨b, _, rfl, q3, _, _, rfl, rfl, _, _, rfl, rfl, rfl⟩, ih ys q2⟩
  unfold rep0
  simp only [repG]
  exact ⟨a, xs, h1, h2, key _ xs h3⟩
def fC (p : Int) (f : List Int) (l : List Dt) (t : Str) : List (Option Dt) := [some (.poly p f), some (.int (((f.length : Int) - 2) / 2)), some (.str "two"), some (.tup l), some (.int p), some (rimsD p f), some (.str t)]
theorem seal_curve {p : Int} {f : List Int} {l : List Dt} {t : Str} (h2 : 2 ≤ f.length) (h9 : f.length ≤ 9) (ht : t.length ≤ 1000) (htw : Two p f) : Seal K (cC K) (fC p f l t) (.curve p f) := fun a dx vals H q1 q2 q3 =>
  rep_curve.mpr ⟨h2, h9, "two", t, ht, ⟨fun _ => htw, fun _ => rfl⟩, seal_obj (.cons (fun _ _ h => rep_poly.mp h) (.cons (fun _ _ h => rep_int.mp h) (.cons (fun _ _ h => rep_str.mp h) (.cons (fun _ _ _ => trivial) (.cons (fun _ _ h => rep_int.mp h) (.cons (fun _ _ h _ => rep0_rims h) (.cons (fun _ _ h => rep_str.mp h) .nil))))))) q1 q2 q3⟩
def I_curve : Si := fun ds RF => ∃ p f, ds = [.poly p f] ∧ Wf p f ∧ Two p f ∧ 2 ≤ f.length ∧ f.length ≤ 9 ∧ freeP p f = true ∧ ∀ l t, t.length ≤ 1000 → RF (fC p f l t)
theorem p_Curve_init (T : Tx K mg) : FnR P w K mg base CX0 15 (He.ma K (cC K) "__init__") (spI K (cC K) I_curve) :=
  fnI_ok (N := ["self", "poly"]) (ps := ["self", "poly"]) (d_Curve___init__ T) (sc_of (by decide +kernel)) (fun _ _ _ _ _ _ us hl => match us, hl with | [_, _], _ => rfl) (fun _ _ ⟨_, _, e, _⟩ => e ▸ rfl) fun X cg hf ds RF ⟨p, f, e, wf, ht, h2, h9, hfr, hR⟩ a dx => by
    subst e
    have bf := T.bf
    have fr := cg.fr
    have pp := wf.prr.pos
    have pl := wf.prr.le
    have hne : f ≠ [] := fun z => by rw [z] at h2; exact absurd h2 (by decide)
    refine r_if (k := false) ((t_not (t_val (v_io cg (sc_Poly T) (si_Poly T) (ki_Poly_Poly T) (g_Poly T) i_poly (v_var 1)))).is rfl) (fun h => nomatch h) fun _ => r_nil ?_
    refine r_if (k := false) ((t_w (w_or (t_not (t_chain op_le op_le v_int (v_pr cg (sc_Poly T) (pp_Poly_degree T) (p_Poly_degree T) i_poly ⟨p, f, rfl, rfl⟩ (v_var 1)) (v_gi cg (g_MAX_DEGREE T)))) fun _ => w_or1 (t_not (t_val (v_fn cg (p_is_square_free T) (d_is_square_free T) (g_is_square_free T) (a_d (v_var 1) a_nil) ⟨p, f, rfl, wf, hne, by omega, rfl⟩))))).is ?_) (fun h => nomatch h) fun _ => r_nil ?_
    · rw [hfr, decide_eq_true (by omega : (1 : Int) ≤ (f.length : Int) - 1), decide_eq_true (by omega : (f.length : Int) - 1 ≤ 8)]
      rfl
    refine r_fld 0 (C := (cC K, a, dx)) (by rw [fr]; exact sc_Curve T) (by rw [fr]; exact sl_Curve_own_f T) (v_var 1) rfl fun d hd => ?_
    cases hd
    refine r_fld 0 (C := (cC K, a, dx)) (R := is_ (.int p)) (by rw [fr]; exact sc_Curve T) (by rw [fr]; exact sl_Curve_own_prime T) (v_pr cg (sc_Poly T) (pp_Poly_prime T) (p_Poly_prime T) i_poly ⟨p, f, rfl, rfl⟩ (v_var 1)) rfl fun d hd => ?_
    cases hd
    refine r_fld 0 (C := (cC K, a, dx)) (R := is_ (.str "two")) (by rw [fr]; exact sc_Curve T) (by rw [fr]; exact sl_Curve_own_kind T) (v_fn cg (p_kind_in T) (d_kind_in T) (g_kind_in T) (a_d (v_var 1) a_nil) ⟨p, f, rfl, wf, ht, rfl⟩) rfl fun d hd => ?_
    cases hd
    refine r_fld 0 (C := (cC K, a, dx)) (R := is_ (.int (((f.length : Int) - 2) / 2))) (by rw [fr]; exact sc_Curve T) (by rw [fr]; exact sl_Curve_own_genus T) ((v_fdiv (by decide) (v_sub (v_pr cg (sc_Poly T) (pp_Poly_degree T) (p_Poly_degree T) i_poly ⟨p, f, rfl, rfl⟩ (v_var 1)) v_int) v_int).is (by congr 2; omega)) rfl fun d hd => ?_
    cases hd
    refine r_fld 0 (C := (cC K, a, dx)) (R := is_ (rimsD p f)) (by rw [fr]; exact sc_Curve T) (by rw [fr]; exact sl_Curve_own_rims T) (v_fn cg (p_rims_in T) (d_rims_in T) (g_rims_in T) (a_d (v_var 1) (a_d (v_self (C := (cC K, a, dx)) (j := 2) 0 (by rw [fr]; exact sc_Curve T) (by rw [fr]; exact sl_Curve_own_kind T) rfl rfl) a_nil)) ⟨p, f, rfl, wf, ht, rfl⟩) rfl fun d hd => ?_
    cases hd
    refine r_fld 0 (C := (cC K, a, dx)) (R := fun d => ∃ l, d = .tup l) (by rw [fr]; exact sc_Curve T) (by rw [fr]; exact sl_Curve_own_points T) (v_fn cg (p_points_in T) (d_points_in T) (g_points_in T) (a_d (v_var 1) (a_d (v_self (C := (cC K, a, dx)) (j := 5) 0 (by rw [fr]; exact sc_Curve T) (by rw [fr]; exact sl_Curve_own_rims T) rfl rfl) (a_d (v_self (C := (cC K, a, dx)) (j := 2) 0 (by rw [fr]; exact sc_Curve T) (by rw [fr]; exact sl_Curve_own_kind T) rfl rfl) a_nil))) ⟨p, f, _, rfl, wf, by rw [List.length_map]; exact Nat.le_trans (roots_len wf.prr) (by decide), fun l2 => ⟨l2, rfl⟩⟩) rfl fun d ⟨l, hd⟩ => ?_
    subst hd
    refine r_fld 0 (C := (cC K, a, dx)) (R := Tx1 fun s => s.length ≤ 1000) (by rw [fr]; exact sc_Curve T) (by rw [fr]; exact sl_Curve_own_text T) ((v_joined (L := 900) (j_cons (l := 20) v_strT (fun s e => by rw [e]; decide +kernel) (j_cons (l := 200) (A := fun s => s.length ≤ 160) (v_fmtO cg (si_Poly T) (fo_Poly T) (mm_Poly___str__ T) (p_Poly_str T) (by decide) i_poly (v_var 1) ⟨p, f, rfl, by omega, fun s hs => ⟨s, rfl, by omega⟩⟩) (fun s h => by omega) (j_cons (l := 20) v_strT (fun s e => by rw [e]; decide +kernel) (j_cons (l := 660) (v_fmtI (log_small (by omega) (by omega)) (v_pr cg (sc_Poly T) (pp_Poly_prime T) (p_Poly_prime T) i_poly ⟨p, f, rfl, rfl⟩ (v_var 1))) (fun s e => by rw [e]; exact Nat.le_trans (numS_len (i := p) (by omega) (by omega)) (by decide)) j_nil)))) (by decide)).mono fun d ⟨s, e, _, hl⟩ => ⟨s, e, by omega⟩) rfl fun d ⟨t, hd, htl⟩ => ?_
    subst hd
    refine r_nil ⟨_, _, rfl, ?_⟩
    simp only [putF, List.length_cons, List.length_nil, List.nil_append, List.cons_append, Nat.zero_add, Nat.reduceAdd, Nat.reduceSub, List.replicate_succ, List.replicate_zero, List.set_cons_zero, List.set_cons_succ, List.length_set, List.append_nil]
    exact hR l t htl
end
end DL

namespace DL
/-! ### Cauchy's product of two sequences -/
abbrev sh (a : Nat → Int) : Nat → Int := fun n => a (n + 1)
def cv : (Nat → Int) → (Nat → Int) → Nat → Int
  | a, b, 0 => a 0 * b 0
  | a, b, i + 1 => a 0 * b (i + 1) + cv (sh a) b i
theorem cv0 (a b : Nat → Int) : cv a b 0 = a 0 * b 0 := rfl
theorem cvS (a b : Nat → Int) (i : Nat) : cv a b (i + 1) = a 0 * b (i + 1) + cv (sh a) b i := rfl
theorem cvR (a b : Nat → Int) (i : Nat) : cv a b (i + 1) = a (i + 1) * b 0 + cv a (sh b) i := by
  induction i generalizing a with
  | zero => simp only [cvS, cv0, sh]; omega
  | succ i ih => rw [cvS, ih (sh a), cvS a (sh b)]; simp only [sh]; omega
theorem cv_comm (a b : Nat → Int) (i : Nat) : cv a b i = cv b a i := by
  induction i generalizing a with
  | zero => rw [cv0, cv0, Int.mul_comm]
  | succ i ih => rw [cvS, ih (sh a), cvR b a, Int.mul_comm]
theorem cv_add (a a' b : Nat → Int) (i : Nat) : cv (fun n => a n + a' n) b i = cv a b i + cv a' b i := by
  induction i generalizing a a' with
  | zero => simp only [cv0]; rw [Int.add_mul]
  | succ i ih =>
    rw [cvS, cvS, cvS, show sh (fun n => a n + a' n) = fun n => sh a n + sh a' n from rfl, ih (sh a) (sh a'), Int.add_mul]
    omega
theorem cv_smul (c : Int) (a b : Nat → Int) (i : Nat) : cv (fun n => c * a n) b i = c * cv a b i := by
  induction i generalizing a with
  | zero => simp only [cv0]; rw [Int.mul_assoc]
  | succ i ih =>
    rw [cvS, cvS, show sh (fun n => c * a n) = fun n => c * sh a n from rfl, ih (sh a), Int.mul_add, Int.mul_assoc]
theorem cv_addR (a b b' : Nat → Int) (i : Nat) : cv a (fun n => b n + b' n) i = cv a b i + cv a b' i := by
  rw [cv_comm, cv_add, cv_comm b, cv_comm b']
theorem cv_smulR (c : Int) (a b : Nat → Int) (i : Nat) : cv a (fun n => c * b n) i = c * cv a b i := by
  rw [cv_comm, cv_smul, cv_comm b]
theorem cv_assoc (a b c : Nat → Int) (i : Nat) : cv (cv a b) c i = cv a (cv b c) i := by
  induction i generalizing a with
  | zero => rw [cv0, cv0, cv0, cv0, Int.mul_assoc]
  | succ i ih =>
    rw [cvS, cvS a, show sh (cv a b) = fun n => (fun n => a 0 * sh b n) n + cv (sh a) b n from rfl, cv_add, cv_smul, ih (sh a), cv0, cvS b c, Int.mul_add]
    rw [Int.mul_assoc]
    omega
/-- equal modulo p -/
abbrev Eqm (p : Int) (a b : Nat → Int) : Prop := ∀ n, a n % p = b n % p
theorem emm {p x y x' y' : Int} (h : x % p = x' % p) (h2 : y % p = y' % p) : (x * y) % p = (x' * y') % p := by rw [Int.mul_emod, h, h2, ← Int.mul_emod]
theorem ema {p x y x' y' : Int} (h : x % p = x' % p) (h2 : y % p = y' % p) : (x + y) % p = (x' + y') % p := by rw [Int.add_emod, h, h2, ← Int.add_emod]
theorem cv_congr {p : Int} {a a' b b' : Nat → Int} (h : Eqm p a a') (h2 : Eqm p b b') (i : Nat) : cv a b i % p = cv a' b' i % p := by
  induction i generalizing a a' with
  | zero => exact emm (h 0) (h2 0)
  | succ i ih => exact ema (emm (h 0) (h2 _)) (ih fun n => h (n + 1))
theorem cv_zero {a b : Nat → Int} (h : ∀ n, a n = 0) (i : Nat) : cv a b i = 0 := by
  induction i generalizing a with
  | zero => rw [cv0, h 0, Int.zero_mul]
  | succ i ih => rw [cvS, h 0, Int.zero_mul, ih fun n => h (n + 1)]; rfl
/-- the top of a product -/
theorem cv_top {a b : Nat → Int} {m n : Nat} (h : ∀ i, m < i → a i = 0) (h2 : ∀ i, n < i → b i = 0) : cv a b (m + n) = a m * b n ∧ ∀ i, m + n < i → cv a b i = 0 := by
  induction m generalizing a with
  | zero =>
    constructor
    · rw [Nat.zero_add]
      cases n with
      | zero => rfl
      | succ n => rw [cvS, cv_zero fun i => h (i + 1) (by omega)]; omega
    · intro i hi
      cases i with
      | zero => omega
      | succ i => rw [cvS, cv_zero fun i => h (i + 1) (by omega), h2 _ (by omega)]; omega
  | succ m ih =>
    obtain ⟨i1, i2⟩ := ih (a := sh a) fun i hi => h (i + 1) (by omega)
    constructor
    · rw [show m + 1 + n = (m + n) + 1 by omega, cvS, i1, h2 _ (by omega)]
      simp [sh]
    · intro i hi
      cases i with
      | zero => omega
      | succ i => rw [cvS, i2 _ (by omega), h2 _ (by omega)]; simp
/-- one -/
abbrev e1 : Nat → Int := fun n => if n = 0 then 1 else 0
theorem cv_one (b : Nat → Int) (i : Nat) : cv e1 b i = b i := by
  cases i with
  | zero => simp [cv0, e1]
  | succ i => rw [cvS, cv_zero fun n => by simp [sh, e1]]; simp [e1]
/-- n times the n-th -/
abbrev eu (a : Nat → Int) : Nat → Int := fun n => (n : Int) * a n
theorem cv_eu (a b : Nat → Int) (i : Nat) : (i : Int) * cv a b i = cv (eu a) b i + cv a (eu b) i := by
  induction i generalizing a with
  | zero => simp [cv0, eu]
  | succ i ih =>
    have h := ih (sh a)
    have e : sh (eu a) = fun n => eu (sh a) n + sh a n := by
      funext n
      show ((n + 1 : Nat) : Int) * a (n + 1) = (n : Int) * a (n + 1) + a (n + 1)
      rw [Int.natCast_add, Int.add_mul]
      simp
    rw [cvS, cvS (eu a), cvS a (eu b), e, cv_add]
    simp only [eu] at h ⊢
    rw [Int.natCast_add, Int.mul_add, Int.add_mul _ _ (cv (sh a) b i), h]
    simp only [Int.natCast_add, Int.natCast_zero, Int.natCast_one, Int.zero_mul, Int.one_mul, Int.zero_add, Int.mul_left_comm (a 0)]
    omega
/-- the derivative -/
abbrev dv (a : Nat → Int) : Nat → Int := fun n => ((n + 1 : Nat) : Int) * a (n + 1)
theorem cv_dv (a b : Nat → Int) (i : Nat) : dv (cv a b) i = cv (dv a) b i + cv a (dv b) i := by
  show ((i + 1 : Nat) : Int) * cv a b (i + 1) = _
  rw [cv_eu, cvS (eu a), cvR a (eu b)]
  simp only [eu]
  simp
end DL

namespace DL
/-! ### entries of rows -/
theorem getI_nil (i : Nat) : getI [] i = 0 := rfl
theorem getI_ge {r : List Int} {i : Nat} (h : r.length ≤ i) : getI r i = 0 := by
  unfold getI
  rw [List.getElem?_eq_none h]
  rfl
theorem getI_lt {r : List Int} {i : Nat} (h : i < r.length) : getI r i = r[i] := by
  unfold getI
  rw [List.getElem?_eq_getElem h]
  rfl
theorem getI_snoc (r : List Int) (x : Int) (i : Nat) : getI (r ++ [x]) i = if i = r.length then x else getI r i := by
  unfold getI
  rw [List.getElem?_append]
  split
  · rw [if_neg (by omega)]
  · split
    · rename_i h1 h2
      subst h2
      simp
    · rw [List.getElem?_eq_none (by simp; omega), List.getElem?_eq_none (by omega)]
theorem getI_trim (r : List Int) (i : Nat) : getI (trimI r) i = getI r i := by
  generalize h : r.length = n
  induction n generalizing r with
  | zero => rw [List.eq_nil_of_length_eq_zero h]; rfl
  | succ n ih =>
    rcases List.eq_nil_or_concat r with e | ⟨l, x, e⟩
    · rw [e]; rfl
    · have e : r = l ++ [x] := by rw [e, List.concat_eq_append]
      subst e
      by_cases hx : x = 0
      · subst hx
        rw [trim_snoc0, ih l (by simpa using h), getI_snoc]
        split
        · rename_i h2
          exact getI_ge (by omega)
        · rfl
      · rw [trim_snoc hx]
theorem last_getI {r : List Int} (h : r ≠ []) : r.getLastD 0 = getI r (r.length - 1) := by
  rcases List.eq_nil_or_concat r with e | ⟨l, x, e⟩
  · exact absurd e h
  · rw [e, List.concat_eq_append, getI_snoc]
    simp
theorem lastD {r : List Int} (h : r ≠ []) : r.getLastD 1 = r.getLastD 0 := by
  rcases List.eq_nil_or_concat r with e | ⟨l, x, e⟩
  · exact absurd e h
  · rw [e, List.concat_eq_append]; simp
theorem top_getI {r : List Int} (h : r ≠ []) (ht : r.getLastD 1 ≠ 0) : getI r (r.length - 1) ≠ 0 := by
  rw [← last_getI h, ← lastD h]
  exact ht
theorem row_ext {a b : List Int} (ha : a.getLastD 1 ≠ 0) (hb : b.getLastD 1 ≠ 0) (h : ∀ i, getI a i = getI b i) : a = b := by
  have key : ∀ {a b : List Int}, b.getLastD 1 ≠ 0 → (∀ i, getI a i = getI b i) → b.length ≤ a.length := fun {a b} hb h => by
    by_cases hn : b = []
    · rw [hn]; exact Nat.zero_le _
    · have h1 := top_getI hn hb
      rw [← h] at h1
      have : ¬ a.length ≤ b.length - 1 := fun z => h1 (getI_ge z)
      omega
  have hl : a.length = b.length := Nat.le_antisymm (key ha fun i => (h i).symm) (key hb h)
  refine List.ext_getElem hl fun i h1 h2 => ?_
  have := h i
  rw [getI_lt h1, getI_lt h2] at this
  exact this
theorem len_le {r : List Int} (ht : r.getLastD 1 ≠ 0) {n : Nat} (h : ∀ i, n ≤ i → getI r i = 0) : r.length ≤ n := by
  by_cases hn : r = []
  · rw [hn]; exact Nat.zero_le _
  · have h1 := top_getI hn ht
    have : ¬ n ≤ r.length - 1 := fun z => h1 (h _ z)
    omega
theorem getI_res {p : Int} {r : List Int} (hp : 0 < p) (h : Res p r) (i : Nat) : 0 ≤ getI r i ∧ getI r i < p := by
  by_cases hi : i < r.length
  · rw [getI_lt hi]; exact h _ (List.getElem_mem hi)
  · rw [getI_ge (by omega)]; omega
theorem getI_mod {p : Int} {r : List Int} (hp : 0 < p) (h : Res p r) (i : Nat) : getI r i % p = getI r i := by
  have := getI_res hp h i
  exact Int.emod_eq_of_lt this.1 this.2
theorem getI_map {f : Int → Int} (h0 : f 0 = 0) (r : List Int) (i : Nat) : getI (r.map f) i = f (getI r i) := by
  unfold getI
  rw [List.getElem?_map]
  cases r[i]? with
  | none => exact h0.symm
  | some x => rfl
theorem getI_addZ {p : Int} {a b : List Int} (hp : 0 < p) (ha : Res p a) (hl : b.length ≤ a.length) (i : Nat) : getI (addZ p a b) i = (getI a i + getI b i) % p := by
  unfold addZ getI
  have e : ((a.zip b).map fun q => (q.1 + q.2) % p).length = b.length := by
    rw [List.length_map, List.length_zip]; omega
  rw [List.getElem?_append, e]
  split
  · rename_i h
    have h2 : i < a.length := by omega
    rw [List.getElem?_map, List.getElem?_zip_eq_some (z := (a[i], b[i])) |>.mpr ⟨List.getElem?_eq_getElem h2, List.getElem?_eq_getElem h⟩, List.getElem?_eq_getElem h2, List.getElem?_eq_getElem h]
    rfl
  · rename_i h
    rw [List.getElem?_drop, show b.length + (i - b.length) = i by omega, List.getElem?_eq_none (l := b) (by omega)]
    show getI a i = (getI a i + 0) % p
    rw [Int.add_zero, getI_mod hp ha]
theorem getI_sumL {p : Int} {a b : List Int} (hp : 0 < p) (ha : Res p a) (hb : Res p b) (i : Nat) : getI (sumL p a b) i = (getI a i + getI b i) % p := by
  unfold sumL
  split
  · exact getI_addZ hp ha (by assumption) i
  · rw [getI_addZ hp hb (by omega) i, Int.add_comm]
theorem getI_opp {p : Int} (r : List Int) (i : Nat) : getI (oppL p r) i = -(getI r i) % p := by
  unfold oppL
  rw [getI_map (f := fun e => (p - e) % p) (by simp)]
  show (p - getI r i) % p = _
  rw [Int.sub_eq_add_neg, Int.add_emod_left]
theorem getI_set (r : List Int) (k : Nat) (x : Int) (i : Nat) (h : k < r.length) : getI (r.set k x) i = if i = k then x else getI r i := by
  unfold getI
  rw [List.getElem?_set]
  by_cases e : k = i
  · subst e
    rw [if_pos rfl, if_pos h, if_pos rfl]
    rfl
  · rw [if_neg e, if_neg (fun z => e z.symm)]
/-- b, moved up -/
abbrev up (k : Nat) (b : Nat → Int) : Nat → Int := fun i => if k ≤ i then b (i - k) else 0
theorem rowAdd_get (at_ : Nat) (x : Int) (n : Nat) : ∀ (b : List Int) (k : Nat) (f : List Int) (i : Nat), at_ + k + b.length ≤ f.length → getI ((b.zipIdx k).foldl (fun f q => f.set (at_ + q.2) (getI f (at_ + q.2) + x * q.1)) f) i = getI f i + x * up (at_ + k) (getI b) i
  | [], k, f, i, h => by simp [up, getI]
  | y :: b, k, f, i, h => by
    simp only [List.length_cons] at h
    rw [List.zipIdx_cons, List.foldl_cons, rowAdd_get at_ x n b (k + 1) _ i (by rw [List.length_set]; omega), getI_set _ _ _ _ (by omega)]
    simp only [up]
    by_cases e : i = at_ + k
    · subst e
      rw [if_pos rfl, if_neg (by omega), if_pos (Nat.le_refl _), Nat.sub_self]
      show _ = _ + x * y
      omega
    · rw [if_neg e]
      by_cases h1 : at_ + k ≤ i
      · rw [if_pos (by omega), if_pos h1]
        have : i - (at_ + k) = (i - (at_ + (k + 1))) + 1 := by omega
        rw [this]
        rfl
      · rw [if_neg (by omega), if_neg h1]
theorem up_cv (a b : Nat → Int) (k i : Nat) : up k (cv a b) i = a 0 * up k b i + up (k + 1) (cv (sh a) b) i := by
  simp only [up]
  by_cases h : k ≤ i
  · rw [if_pos h, if_pos h]
    by_cases h2 : i = k
    · subst h2
      rw [if_neg (by omega), Nat.sub_self, cv0]
      omega
    · rw [if_pos (by omega), show i - k = (i - (k + 1)) + 1 by omega, cvS]
  · rw [if_neg h, if_neg h, if_neg (by omega)]
    omega
theorem sh_cons (x : Int) (r : List Int) : sh (getI (x :: r)) = getI r := rfl
theorem prod_get (b : List Int) : ∀ (a : List Int) (k : Nat) (f : List Int) (i : Nat), k + a.length + b.length ≤ f.length + 1 → getI ((a.zipIdx k).foldl (fun f q => if q.1 = 0 then f else rowAdd f q.2 q.1 b) f) i = getI f i + up k (cv (getI a) (getI b)) i
  | [], k, f, i, h => by
    simp only [up]
    rw [cv_zero (a := getI []) fun _ => rfl]
    simp
  | x :: a, k, f, i, h => by
    simp only [List.length_cons] at h
    have e : getI (if x = 0 then f else rowAdd f k x b) i = getI f i + x * up k (getI b) i := by
      split
      · rename_i hx
        rw [hx]; omega
      · unfold rowAdd
        have := rowAdd_get k x 0 b 0 f i (by omega)
        exact this
    have el : (if x = 0 then f else rowAdd f k x b).length = f.length := by
      split
      · rfl
      · exact rowAdd_len _ _ _ _
    rw [List.zipIdx_cons, List.foldl_cons, prod_get b a (k + 1) _ i (by rw [el]; omega), e, up_cv (getI (x :: a)), sh_cons]
    show _ = _ + (x * _ + _)
    omega
theorem getI_rep (n i : Nat) : getI (List.replicate n 0) i = 0 := by
  unfold getI
  rw [List.getElem?_replicate]
  split <;> rfl
theorem prodR_get (a b : List Int) (i : Nat) : getI (prodR a b) i = cv (getI a) (getI b) i := by
  by_cases h : a.length = 0
  · rw [List.eq_nil_of_length_eq_zero h, cv_zero (a := getI []) fun _ => rfl]
    exact getI_rep _ _
  · unfold prodR
    have := prod_get b a 0 (List.replicate (a.length + b.length - 1) 0) i (by rw [List.length_replicate]; omega)
    rw [getI_rep, Int.zero_add] at this
    exact this
theorem getI_prod (p : Int) (a b : List Int) (i : Nat) : getI (prodL p a b) i = cv (getI a) (getI b) i % p := by
  unfold prodL
  rw [getI_map (f := fun e => e % p) (by simp), prodR_get]
/-! ### the operations -/
structure WR (p : Int) (r : List Int) : Prop where
  res : Res p r
  top : r.getLastD 1 ≠ 0
theorem wr_trim {p : Int} {r : List Int} (h : Res p r) : WR p (trimI r) := ⟨res_trim h, trim_top r⟩
theorem get_add {p : Int} {a b : List Int} (hp : 0 < p) (ha : Res p a) (hb : Res p b) (i : Nat) : getI (addP p a b) i = (getI a i + getI b i) % p := by
  unfold addP; rw [getI_trim, getI_sumL hp ha hb]
theorem get_neg {p : Int} (a : List Int) (i : Nat) : getI (negP p a) i = -(getI a i) % p := by
  unfold negP; rw [getI_trim, getI_opp]
theorem get_sub {p : Int} {a b : List Int} (hp : 0 < p) (ha : Res p a) (i : Nat) : getI (subP p a b) i = (getI a i - getI b i) % p := by
  unfold subP; rw [getI_trim, getI_sumL hp ha (res_oppL hp), getI_opp, Int.sub_eq_add_neg]
  rw [Int.add_emod, Int.emod_emod_of_dvd _ (Int.dvd_refl p), ← Int.add_emod]
theorem get_mul {p : Int} (a b : List Int) (i : Nat) : getI (mulP p a b) i = cv (getI a) (getI b) i % p := by
  unfold mulP; rw [getI_trim, getI_prod]
theorem get_scl {p : Int} (c : Int) (a : List Int) (i : Nat) : getI (sclP p c a) i = c * getI a i % p := by
  unfold sclP; rw [getI_trim, getI_map (f := fun e => c * e % p) (by simp)]
theorem get_drv {p : Int} (a : List Int) (i : Nat) : getI (dervP p a) i = dv (getI a) i % p := by
  unfold dervP
  rw [getI_trim]
  unfold getI
  rw [List.getElem?_drop, List.getElem?_map, List.getElem?_zipIdx]
  show _ = ((i + 1 : Nat) : Int) * (a[i + 1]?).getD 0 % p
  rw [Nat.add_comm 1 i]
  cases a[i + 1]? with
  | none => simp
  | some x => simp
end DL

namespace DL
/-! ### polynomials as a ring -/
class PC (p : Int) : Prop where
  pr : Pr p
theorem PC.pos {p : Int} [h : PC p] : 0 < p := h.pr.pos
structure Pol (p : Int) where
  r : List Int
  w : WR p r
section
variable {p : Int}
abbrev Pol.co (a : Pol p) (i : Nat) : Int := getI a.r i
theorem Pol.ext {a b : Pol p} (h : ∀ i, a.co i = b.co i) : a = b := by
  have := row_ext a.w.top b.w.top h
  cases a; cases b
  cases this
  rfl
variable [hp : PC p]
theorem Pol.mod (a : Pol p) (i : Nat) : a.co i % p = a.co i := getI_mod hp.pos a.w.res i
theorem Pol.rng (a : Pol p) (i : Nat) : 0 ≤ a.co i ∧ a.co i < p := getI_res hp.pos a.w.res i
theorem Pol.extm {a b : Pol p} (h : ∀ i, a.co i % p = b.co i % p) : a = b := Pol.ext fun i => by
  have := h i
  rwa [a.mod, b.mod] at this
theorem mm {p : Int} (x : Int) : x % p % p = x % p := Int.emod_emod_of_dvd _ (Int.dvd_refl p)
theorem neg_mm (x : Int) : -(x % p) % p = -x % p := by
  apply Int.emod_eq_emod_iff_emod_sub_eq_zero.mpr
  rw [show -(x % p) - -x = x - x % p by omega]
  exact Int.emod_eq_zero_of_dvd (Int.dvd_self_sub_emod)
/-- the constant -/
def cstR (p c : Int) : List Int := trimI [c % p]
theorem wr_cst (c : Int) : WR p (cstR p c) := wr_trim fun x hx => by
  rw [List.mem_singleton.mp hx]
  exact mod_res hp.pos c
def Pol.C (p : Int) [PC p] (c : Int) : Pol p := ⟨cstR p c, wr_cst c⟩
instance : Add (Pol p) := ⟨fun a b => ⟨addP p a.r b.r, wr_trim (res_sumL hp.pos a.w.res b.w.res)⟩⟩
instance : Mul (Pol p) := ⟨fun a b => ⟨mulP p a.r b.r, wr_trim (res_prodL hp.pos)⟩⟩
instance : Neg (Pol p) := ⟨fun a => ⟨negP p a.r, wr_trim (res_oppL hp.pos)⟩⟩
instance : Sub (Pol p) := ⟨fun a b => ⟨subP p a.r b.r, wr_trim (res_sumL hp.pos a.w.res (res_oppL hp.pos))⟩⟩
instance : NatCast (Pol p) := ⟨fun n => Pol.C p n⟩
instance : IntCast (Pol p) := ⟨fun n => Pol.C p n⟩
instance (n : Nat) : OfNat (Pol p) n := ⟨Pol.C p n⟩
instance : SMul Nat (Pol p) := ⟨fun n a => Pol.C p n * a⟩
instance : SMul Int (Pol p) := ⟨fun n a => Pol.C p n * a⟩
def Pol.pow (a : Pol p) : Nat → Pol p
  | 0 => Pol.C p 1
  | n + 1 => Pol.pow a n * a
instance : HPow (Pol p) Nat (Pol p) := ⟨Pol.pow⟩
theorem Pol.co_add (a b : Pol p) (i : Nat) : (a + b).co i = (a.co i + b.co i) % p := get_add hp.pos a.w.res b.w.res i
theorem Pol.co_mul (a b : Pol p) (i : Nat) : (a * b).co i = cv a.co b.co i % p := get_mul _ _ i
theorem Pol.co_neg (a : Pol p) (i : Nat) : (-a).co i = -(a.co i) % p := get_neg _ i
theorem Pol.co_sub (a b : Pol p) (i : Nat) : (a - b).co i = (a.co i - b.co i) % p := get_sub hp.pos a.w.res i
theorem Pol.co_C (c : Int) (i : Nat) : (Pol.C p c).co i = if i = 0 then c % p else 0 := by
  show getI (cstR p c) i = _
  unfold cstR
  rw [getI_trim]
  cases i with
  | zero => rfl
  | succ i => rfl
theorem Pol.co_zero (i : Nat) : (0 : Pol p).co i = 0 := by
  show (Pol.C p (0 : Nat)).co i = 0
  rw [Pol.co_C]
  split <;> simp
theorem Pol.eqC {c d : Int} (h : c % p = d % p) : Pol.C p c = Pol.C p d := Pol.ext fun i => by rw [Pol.co_C, Pol.co_C, h]
theorem Pol.C_inj {c d : Int} (h : Pol.C p c = Pol.C p d) : c % p = d % p := by
  have : (Pol.C p c).co 0 = (Pol.C p d).co 0 := by rw [h]
  rw [Pol.co_C, Pol.co_C, if_pos rfl, if_pos rfl] at this
  exact this
theorem Pol.C_add (c d : Int) : Pol.C p (c + d) = Pol.C p c + Pol.C p d := Pol.ext fun i => by
  rw [Pol.co_add, Pol.co_C, Pol.co_C, Pol.co_C]
  split
  · exact Int.add_emod ..
  · rfl
theorem Pol.C_neg (c : Int) : Pol.C p (-c) = -Pol.C p c := Pol.ext fun i => by
  rw [Pol.co_neg, Pol.co_C, Pol.co_C]
  split
  · exact (neg_mm c).symm
  · simp
theorem e1_mod (hp : Pr p) (i : Nat) : (Pol.co (@Pol.C p ⟨hp⟩ 1) i) = e1 i := by
  rw [@Pol.co_C p ⟨hp⟩]
  rcases hp with rfl | rfl | rfl <;> rfl
theorem Pol.co_Cmul (c : Int) (a : Pol p) (i : Nat) : (Pol.C p c * a).co i = c * a.co i % p := by
  rw [Pol.co_mul]
  have h : Eqm p (Pol.C p c).co (fun n => c * e1 n) := fun n => by
    rw [Pol.co_C]
    split
    · rename_i e
      subst e
      show c % p % p = c * 1 % p
      rw [Int.emod_emod_of_dvd _ (Int.dvd_refl p), Int.mul_one]
    · rename_i e
      show 0 % p = c * (if n = 0 then 1 else 0) % p
      rw [if_neg e, Int.mul_zero]
  rw [cv_congr h (fun _ => rfl), cv_smul, cv_one]
theorem Pol.C_mul (c d : Int) : Pol.C p (c * d) = Pol.C p c * Pol.C p d := Pol.ext fun i => by
  rw [Pol.co_Cmul, Pol.co_C, Pol.co_C]
  split
  · rw [Int.mul_emod, Int.mul_emod c (d % p), Int.emod_emod_of_dvd _ (Int.dvd_refl p)]
  · simp
theorem Pol.mul_assoc (a b c : Pol p) : a * b * c = a * (b * c) := Pol.ext fun i => by
  rw [Pol.co_mul, Pol.co_mul]
  rw [cv_congr (a' := cv a.co b.co) (b' := c.co) (fun n => by rw [Pol.co_mul, mm]) (fun _ => rfl), cv_congr (a := a.co) (b := Pol.co (b * c)) (a' := a.co) (b' := cv b.co c.co) (fun _ => rfl) (fun n => by rw [Pol.co_mul, mm]), cv_assoc]
theorem Pol.mul_comm (a b : Pol p) : a * b = b * a := Pol.ext fun i => by rw [Pol.co_mul, Pol.co_mul, cv_comm]
theorem Pol.left_distrib (a b c : Pol p) : a * (b + c) = a * b + a * c := Pol.ext fun i => by
  rw [Pol.co_mul, Pol.co_add, Pol.co_mul, Pol.co_mul]
  rw [cv_congr (a := a.co) (b := Pol.co (b + c)) (a' := a.co) (b' := fun n => b.co n + c.co n) (fun _ => rfl) (fun n => by rw [Pol.co_add, mm]), cv_addR, ← Int.add_emod]
theorem Pol.add_comm (a b : Pol p) : a + b = b + a := Pol.ext fun i => by rw [Pol.co_add, Pol.co_add, Int.add_comm]
theorem Pol.add_assoc (a b c : Pol p) : a + b + c = a + (b + c) := Pol.ext fun i => by
  rw [Pol.co_add, Pol.co_add, Pol.co_add, Pol.co_add, Int.emod_add_emod, Int.add_emod_emod, Int.add_assoc]
theorem Pol.add_zero (a : Pol p) : a + 0 = a := Pol.ext fun i => by rw [Pol.co_add, Pol.co_zero, Int.add_zero, a.mod]
theorem Pol.mul_one (a : Pol p) : a * 1 = a := Pol.ext fun i => by
  rw [Pol.mul_comm]
  show (Pol.C p ((1 : Nat) : Int) * a).co i = _
  rw [Pol.co_Cmul, show (((1 : Nat) : Int)) * a.co i = a.co i from Int.one_mul _, a.mod]
theorem Pol.zero_mul (a : Pol p) : 0 * a = 0 := Pol.ext fun i => by
  show (Pol.C p ((0 : Nat) : Int) * a).co i = _
  rw [Pol.co_Cmul, Pol.co_zero]
  simp
theorem Pol.neg_add_cancel (a : Pol p) : -a + a = 0 := Pol.ext fun i => by
  rw [Pol.co_add, Pol.co_neg, Pol.co_zero, Int.emod_add_emod, Int.add_left_neg, Int.zero_emod]
theorem Pol.sub_eq (a b : Pol p) : a - b = a + -b := Pol.ext fun i => by
  rw [Pol.co_sub, Pol.co_add, Pol.co_neg, Int.add_emod_emod, Int.sub_eq_add_neg]
theorem Pol.neg_mul (a b : Pol p) : (-a) * b = -(a * b) := by
  have h1 : (-a) * b + a * b = 0 := by
    rw [Pol.mul_comm (-a), Pol.mul_comm a, ← Pol.left_distrib, Pol.neg_add_cancel, Pol.mul_comm, Pol.zero_mul]
  have h2 := Pol.neg_add_cancel (a * b)
  have : (-a) * b + a * b + -(a * b) = -(a * b) + a * b + -(a * b) := by rw [h1, h2]
  rw [Pol.add_assoc, Pol.add_assoc, Pol.add_comm (a * b), h2, Pol.add_zero, Pol.add_zero] at this
  exact this
instance : Lean.Grind.CommRing (Pol p) where
  add_zero := Pol.add_zero
  add_comm := Pol.add_comm
  add_assoc := Pol.add_assoc
  mul_assoc := Pol.mul_assoc
  mul_one := Pol.mul_one
  one_mul a := by rw [Pol.mul_comm, Pol.mul_one]
  left_distrib := Pol.left_distrib
  right_distrib a b c := by rw [Pol.mul_comm, Pol.left_distrib, Pol.mul_comm c, Pol.mul_comm c]
  zero_mul := Pol.zero_mul
  mul_zero a := by rw [Pol.mul_comm, Pol.zero_mul]
  pow_zero _ := rfl
  pow_succ _ _ := rfl
  ofNat_succ a := by
    show Pol.C p ((a + 1 : Nat) : Int) = Pol.C p (a : Int) + Pol.C p ((1 : Nat) : Int)
    rw [← Pol.C_add]
    rfl
  neg_add_cancel := Pol.neg_add_cancel
  sub_eq_add_neg := Pol.sub_eq
  neg_zsmul i a := by
    show Pol.C p (-i) * a = -(Pol.C p i * a)
    rw [Pol.C_neg, Pol.neg_mul]
  intCast_neg i := Pol.C_neg i
  mul_comm := Pol.mul_comm
example (a b c : Pol p) : (a + b) * (a - b) * c = c * a * a - b * c * b := by grind
example (U V P Q U' V' f : Pol p) (h1 : P * U + Q * U' = f * V) (h2 : P * V + Q * V' = U) : U * U - f * V * V = Q * (U * V' - V * U') := by grind
end
end DL

namespace DL
/-! ### division -/
theorem range_down (k : Nat) : rangeD (((k + 1 : Nat) : Int) - 1) (-1) (k + 1) = (k : Int) :: rangeD ((k : Int) - 1) (-1) k := by
  unfold rangeD
  rw [List.range_succ_eq_map, List.map_cons, List.map_map]
  congr 1
  · omega
  · apply List.map_congr_left
    intro i _
    show ((k + 1 : Nat) : Int) - 1 + ((i + 1 : Nat) : Int) * -1 = (k : Int) - 1 + (i : Int) * -1
    omega
theorem subRow_get {p : Int} (hp : 0 < p) (at_ : Nat) (x : Int) : ∀ (b : List Int) (k : Nat) (f : List Int) (i : Nat), Res p f → at_ + k + b.length ≤ f.length → getI ((b.zipIdx k).foldl (fun f q => f.set (at_ + q.2) ((getI f (at_ + q.2) - x * q.1) % p)) f) i = (getI f i - x * up (at_ + k) (getI b) i) % p
  | [], k, f, i, hf, h => by
    have := getI_mod hp hf i
    simp [up, getI_nil]
    exact this.symm
  | y :: b, k, f, i, hf, h => by
    simp only [List.length_cons] at h
    rw [List.zipIdx_cons, List.foldl_cons, subRow_get hp at_ x b (k + 1) _ i (res_set hf (mod_res hp _)) (by rw [List.length_set]; omega), getI_set _ _ _ _ (by omega)]
    simp only [up]
    by_cases e : i = at_ + k
    · subst e
      rw [if_pos rfl, if_neg (by omega), if_pos (Nat.le_refl _), Nat.sub_self]
      show ((_ - x * y) % p - x * 0) % p = (_ - x * y) % p
      rw [Int.mul_zero, Int.sub_zero, mm]
    · rw [if_neg e]
      by_cases h1 : at_ + k ≤ i
      · rw [if_pos (by omega), if_pos h1]
        have : i - (at_ + k) = (i - (at_ + (k + 1))) + 1 := by omega
        rw [this]
        rfl
      · rw [if_neg (by omega), if_neg h1]
theorem cv_delta (b : Nat → Int) : ∀ (k i : Nat), cv (fun n => if n = k then 1 else 0) b i = up k b i
  | 0, i => by rw [show (fun n : Nat => if n = 0 then (1 : Int) else 0) = e1 from rfl, cv_one]; simp [up]
  | k + 1, 0 => by simp [cv0, up]
  | k + 1, i + 1 => by
    rw [cvS, show sh (fun n : Nat => if n = k + 1 then (1 : Int) else 0) = fun n => if n = k then 1 else 0 from by funext n; simp [sh], cv_delta b k i]
    simp [up]
structure DivI (p : Int) (a b : List Int) (k : Nat) (s : List Int × List Int) : Prop where
  l1 : s.1.length = a.length
  l2 : s.2.length = quoN a b
  r1 : Res p s.1
  r2 : Res p s.2
  low : ∀ i, i < k → getI s.2 i = 0
  high : ∀ i, k + b.length ≤ i + 1 → getI s.1 i = 0
  eq : ∀ i, getI a i % p = (getI s.1 i + cv (getI s.2) (getI b) i) % p
theorem inv_lead {p : Int} (hp : Pr p) {b : List Int} (hb : Res p b) (hn : b ≠ []) (ht : b.getLastD 1 ≠ 0) : invI p (b.getLastD 0) * b.getLastD 0 % p = 1 := by
  have h1 : b.getLastD 0 ≠ 0 := by rw [← lastD hn]; exact ht
  rw [last_getI hn] at h1 ⊢
  have := getI_res hp.pos hb (b.length - 1)
  exact (inv_ok hp (by omega) this.2).2.1
theorem divI_step {p : Int} (hp : Pr p) {a b : List Int} (hb : Res p b) (hn : b ≠ []) (ht : b.getLastD 1 ≠ 0) {k : Nat} (hk : k + 1 ≤ quoN a b) {s : List Int × List Int} (h : DivI p a b (k + 1) s) : DivI p a b k (divStep p (invI p (b.getLastD 0)) b s (k : Int)) := by
  have hl : 0 < b.length := List.length_pos_iff.mpr hn
  have pp := hp.pos
  have hq : quoN a b = a.length + 1 - b.length := rfl
  have hx : (getI s.1 (k + b.length - 1) * invI p (b.getLastD 0) % p) = (getI s.1 (k + b.length - 1) * invI p (b.getLastD 0) % p) := rfl
  generalize hxx : getI s.1 (k + b.length - 1) * invI p (b.getLastD 0) % p = x at hx
  have e1' : ∀ i, getI (divStep p (invI p (b.getLastD 0)) b s (k : Int)).1 i = (getI s.1 i - x * up k (getI b) i) % p := fun i => by
    unfold divStep
    simp only [Int.toNat_natCast, hxx]
    split
    · rename_i h0
      rw [h0, Int.zero_mul, Int.sub_zero, getI_mod pp h.r1]
    · have := subRow_get pp k x b 0 s.1 i h.r1 (by rw [h.l1]; omega)
      exact this
  have e2' : ∀ i, getI (divStep p (invI p (b.getLastD 0)) b s (k : Int)).2 i = if i = k then x else getI s.2 i := fun i => by
    unfold divStep
    simp only [Int.toNat_natCast, hxx]
    exact getI_set _ _ _ _ (by rw [h.l2]; omega)
  obtain ⟨r1, r2⟩ := res_divStep (inv := invI p (b.getLastD 0)) (b := b) (i := (k : Int)) pp h.r1 h.r2
  obtain ⟨l1, l2⟩ := divStep_len p (invI p (b.getLastD 0)) b s (k : Int)
  refine ⟨l1.trans h.l1, l2.trans h.l2, r1, r2, fun i hi => ?_, fun i hi => ?_, fun i => ?_⟩
  · rw [e2', if_neg (by omega)]
    exact h.low i (by omega)
  · rw [e1']
    by_cases e : i = k + b.length - 1
    · subst e
      have hu : up k (getI b) (k + b.length - 1) = b.getLastD 0 := by
        simp only [up]
        rw [if_pos (by omega), last_getI hn]
        congr 1
        omega
      rw [hu, ← hxx]
      have il := inv_lead hp hb hn ht
      have : getI s.1 (k + b.length - 1) * invI p (b.getLastD 0) % p * b.getLastD 0 % p = getI s.1 (k + b.length - 1) % p := by
        rw [Int.mul_emod, mm, ← Int.mul_emod, Int.mul_assoc, Int.mul_emod, il, Int.mul_one, mm]
      rw [Int.sub_emod, this, ← Int.sub_emod, Int.sub_self]
      rfl
    · rw [h.high i (by omega)]
      have : up k (getI b) i = 0 := by
        simp only [up]
        rw [if_pos (by omega)]
        exact getI_ge (by omega)
      rw [this]
      simp
  · rw [h.eq i]
    have hc : cv (getI (divStep p (invI p (b.getLastD 0)) b s (k : Int)).2) (getI b) i = cv (getI s.2) (getI b) i + x * up k (getI b) i := by
      have : getI (divStep p (invI p (b.getLastD 0)) b s (k : Int)).2 = fun n => getI s.2 n + (fun n => x * (fun n => if n = k then (1 : Int) else 0) n) n := by
        funext n
        rw [e2']
        by_cases hnk : n = k
        · subst hnk
          rw [if_pos rfl, h.low n (by omega)]
          simp
        · rw [if_neg hnk]
          simp [hnk]
      rw [this, cv_add, cv_smul, cv_delta]
    rw [hc, e1', Int.add_emod ((_ - _) % p), mm, ← Int.add_emod]
    congr 1
    omega
theorem divI_all {p : Int} (hp : Pr p) {a b : List Int} (hb : Res p b) (hn : b ≠ []) (ht : b.getLastD 1 ≠ 0) : ∀ (k : Nat) (s : List Int × List Int), k ≤ quoN a b → DivI p a b k s → DivI p a b 0 ((rangeD ((k : Int) - 1) (-1) k).foldl (divStep p (invI p (b.getLastD 0)) b) s)
  | 0, s, hk, h => h
  | k + 1, s, hk, h => by
    rw [range_down, List.foldl_cons]
    exact divI_all hp hb hn ht k _ (by omega) (divI_step hp hb hn ht hk h)
theorem divI_end {p : Int} (hp : Pr p) {a b : List Int} (ha : Res p a) (hb : Res p b) (hn : b ≠ []) (ht : b.getLastD 1 ≠ 0) : DivI p a b 0 (divR p a b) := by
  have hl : 0 < b.length := List.length_pos_iff.mpr hn
  refine divI_all hp hb hn ht (quoN a b) _ (Nat.le_refl _) ⟨rfl, List.length_replicate, ha, res_zeros hp.pos, fun i _ => getI_rep _ _, fun i hi => ?_, fun i => ?_⟩
  · exact getI_ge (by unfold quoN at hi; show a.length ≤ i; omega)
  · rw [cv_zero fun n => getI_rep _ _, Int.add_zero]
theorem getI_take (r : List Int) (n i : Nat) : getI (r.take n) i = if i < n then getI r i else 0 := by
  unfold getI
  rw [List.getElem?_take]
  split <;> rfl
section
variable {p : Int} [hp : PC p]
def Pol.quo (a b : Pol p) : Pol p := ⟨quoP p a.r b.r, wr_trim (res_divR hp.pos a.w.res).2⟩
def Pol.rem (a b : Pol p) : Pol p := ⟨remP p a.r b.r, wr_trim (res_take (res_divR hp.pos a.w.res).1)⟩
theorem Pol.div_eq (a b : Pol p) (hb : b.r ≠ []) : a = a.quo b * b + a.rem b := Pol.extm fun i => by
  have d := divI_end hp.pr a.w.res b.w.res hb b.w.top
  have h1 : ∀ i, (a.quo b).co i = getI (divR p a.r b.r).2 i := fun i => getI_trim _ i
  have h2 : ∀ i, (a.rem b).co i = getI (divR p a.r b.r).1 i := fun i => by
    show getI (remP p a.r b.r) i = _
    unfold remP
    rw [getI_trim, getI_take]
    split
    · rfl
    · exact (d.high i (by omega)).symm
  rw [Pol.co_add, mm, Pol.co_mul, Int.emod_add_emod, h2, d.eq i, Int.add_comm]
  rw [show (a.quo b).co = getI (divR p a.r b.r).2 from funext h1]
theorem Pol.rem_len (a b : Pol p) (hb : b.r ≠ []) : (a.rem b).r.length < b.r.length := len_remP hb
/-! ### tops -/
abbrev Pol.len (a : Pol p) : Nat := a.r.length
abbrev Pol.ld (a : Pol p) : Int := a.r.getLastD 0
theorem Pol.len_le (a : Pol p) {n : Nat} : a.len ≤ n ↔ ∀ i, n ≤ i → a.co i = 0 := ⟨fun (h : a.r.length ≤ n) i hi => getI_ge (Nat.le_trans h hi), fun h => DL.len_le a.w.top h⟩
theorem Pol.len0 (a : Pol p) : a.len = 0 ↔ a = 0 := by
  constructor
  · intro h
    exact Pol.ext fun i => by rw [Pol.co_zero]; exact getI_ge (by have : a.r.length = 0 := h; omega)
  · rintro rfl
    exact Nat.le_zero.mp (Pol.len_le _ |>.mpr fun i _ => Pol.co_zero i)
theorem Pol.nil_iff (a : Pol p) : a.r = [] ↔ a = 0 := by rw [← Pol.len0]; exact List.length_eq_zero_iff.symm
theorem Pol.pos_len {a : Pol p} (h : a ≠ 0) : 0 < a.len := Nat.pos_of_ne_zero fun z => h ((Pol.len0 a).mp z)
theorem Pol.ld_co {a : Pol p} (h : a ≠ 0) : a.ld = a.co (a.len - 1) := last_getI fun z => h ((Pol.nil_iff a).mp z)
theorem Pol.ld_ne {a : Pol p} (h : a ≠ 0) : a.ld ≠ 0 := by
  rw [Pol.ld_co h]
  exact top_getI (fun z => h ((Pol.nil_iff a).mp z)) a.w.top
theorem res_mul_ne {p : Int} (hp : Pr p) {x y : Int} (h : x % p ≠ 0) (h2 : y % p ≠ 0) : x * y % p ≠ 0 := by
  rw [Int.mul_emod]
  have hx := mod_res hp.pos x
  have hy := mod_res hp.pos y
  generalize x % p = u at *
  generalize y % p = v at *
  rcases hp with rfl | rfl | rfl
  · have h1 : u = 1 ∨ u = 2 := by omega
    have h2 : v = 1 ∨ v = 2 := by omega
    rcases h1 with rfl | rfl <;> rcases h2 with rfl | rfl <;> decide
  · have h1 : u = 1 ∨ u = 2 ∨ u = 3 ∨ u = 4 := by omega
    have h2 : v = 1 ∨ v = 2 ∨ v = 3 ∨ v = 4 := by omega
    rcases h1 with rfl | rfl | rfl | rfl <;> rcases h2 with rfl | rfl | rfl | rfl <;> decide
  · have h1 : u = 1 ∨ u = 2 ∨ u = 3 ∨ u = 4 ∨ u = 5 ∨ u = 6 := by omega
    have h2 : v = 1 ∨ v = 2 ∨ v = 3 ∨ v = 4 ∨ v = 5 ∨ v = 6 := by omega
    rcases h1 with rfl | rfl | rfl | rfl | rfl | rfl <;> rcases h2 with rfl | rfl | rfl | rfl | rfl | rfl <;> decide
/-- at n the entry x, above it none -/
structure Pol.Top (a : Pol p) (n : Nat) (x : Int) : Prop where
  at_ : a.co n % p = x % p
  up : ∀ i, n < i → a.co i = 0
theorem Pol.top_of {a : Pol p} (h : a ≠ 0) : a.Top (a.len - 1) a.ld := ⟨by rw [Pol.ld_co h], fun i hi => getI_ge (by have : a.r.length - 1 < i := hi; omega)⟩
theorem Pol.Top.mul {a b : Pol p} {m n : Nat} {x y : Int} (h : a.Top m x) (h2 : b.Top n y) : (a * b).Top (m + n) (x * y) := by
  obtain ⟨t1, t2⟩ := cv_top h.up h2.up
  refine ⟨?_, fun i hi => ?_⟩
  · rw [Pol.co_mul, mm, t1]
    exact emm h.at_ h2.at_
  · rw [Pol.co_mul, t2 i hi]; rfl
theorem Pol.Top.add {a b : Pol p} {n : Nat} {x y : Int} (h : a.Top n x) (h2 : b.Top n y) : (a + b).Top n (x + y) := by
  refine ⟨?_, fun i hi => ?_⟩
  · rw [Pol.co_add, mm]
    exact ema h.at_ h2.at_
  · rw [Pol.co_add, h.up i hi, h2.up i hi]; rfl
theorem Pol.Top.neg {a : Pol p} {n : Nat} {x : Int} (h : a.Top n x) : (-a).Top n (-x) := by
  refine ⟨?_, fun i hi => ?_⟩
  · rw [Pol.co_neg, mm, ← neg_mm (a.co n), h.at_, neg_mm]
  · rw [Pol.co_neg, h.up i hi]; rfl
theorem Pol.Top.sub {a b : Pol p} {n : Nat} {x y : Int} (h : a.Top n x) (h2 : b.Top n y) : (a - b).Top n (x - y) := by
  rw [Pol.sub_eq, Int.sub_eq_add_neg]
  exact h.add h2.neg
theorem Pol.Top.low {a : Pol p} {n : Nat} (h : a.len ≤ n) : a.Top n 0 := ⟨by rw [(Pol.len_le a).mp h n (Nat.le_refl _)], fun i hi => (Pol.len_le a).mp h i (by omega)⟩
theorem Pol.Top.congr {a : Pol p} {n : Nat} {x y : Int} (h : a.Top n x) (e : x % p = y % p) : a.Top n y := ⟨h.at_.trans e, h.up⟩
theorem Pol.Top.len {a : Pol p} {n : Nat} {x : Int} (h : a.Top n x) (hx : x % p ≠ 0) : a.len = n + 1 := by
  have h1 : a.len ≤ n + 1 := (Pol.len_le a).mpr fun i hi => h.up i (by omega)
  have h2 : ¬ a.len ≤ n := fun z => hx (by rw [← h.at_, (Pol.len_le a).mp z n (Nat.le_refl _)]; rfl)
  omega
theorem Pol.Top.le {a : Pol p} {n : Nat} {x : Int} (h : a.Top n x) : a.len ≤ n + 1 := (Pol.len_le a).mpr fun i hi => h.up i (by omega)
theorem Pol.Top.ne {a : Pol p} {n : Nat} {x : Int} (h : a.Top n x) (hx : x % p ≠ 0) : a ≠ 0 := fun z => by
  have := h.len hx
  rw [z, (Pol.len0 (0 : Pol p)).mpr rfl] at this
  omega
theorem Pol.Top.ld {a : Pol p} {n : Nat} {x : Int} (h : a.Top n x) (hx : x % p ≠ 0) : a.ld = x % p := by
  rw [Pol.ld_co (h.ne hx), h.len hx, ← h.at_, Nat.add_sub_cancel, a.mod]
theorem Pol.ld_mod (a : Pol p) : a.ld % p = a.ld := by
  by_cases h : a = 0
  · rw [h]
    have : (0 : Pol p).r = [] := (Pol.nil_iff _).mpr rfl
    show List.getLastD (0 : Pol p).r 0 % p = List.getLastD (0 : Pol p).r 0
    rw [this]; rfl
  · rw [Pol.ld_co h, a.mod]
theorem Pol.ld_nm {a : Pol p} (h : a ≠ 0) : a.ld % p ≠ 0 := by rw [Pol.ld_mod]; exact Pol.ld_ne h
theorem Pol.mul_len {a b : Pol p} (ha : a ≠ 0) (hb : b ≠ 0) : (a * b).len + 1 = a.len + b.len := by
  have := ((Pol.top_of ha).mul (Pol.top_of hb)).len (res_mul_ne hp.pr (Pol.ld_nm ha) (Pol.ld_nm hb))
  have h1 := Pol.pos_len ha
  have h2 := Pol.pos_len hb
  omega
theorem Pol.mul_ne {a b : Pol p} (ha : a ≠ 0) (hb : b ≠ 0) : a * b ≠ 0 := ((Pol.top_of ha).mul (Pol.top_of hb)).ne (res_mul_ne hp.pr (Pol.ld_nm ha) (Pol.ld_nm hb))
theorem Pol.mul_ld {a b : Pol p} (ha : a ≠ 0) (hb : b ≠ 0) : (a * b).ld = a.ld * b.ld % p := ((Pol.top_of ha).mul (Pol.top_of hb)).ld (res_mul_ne hp.pr (Pol.ld_nm ha) (Pol.ld_nm hb))
theorem Pol.cancel {a b c : Pol p} (hc : c ≠ 0) (h : c * a = c * b) : a = b := by
  by_cases e : a - b = 0
  · grind
  · exact absurd (show c * (a - b) = 0 by grind) (Pol.mul_ne hc e)
theorem Pol.sub_len (a b : Pol p) {n : Nat} (h : a.len ≤ n) (h2 : b.len ≤ n) : (a - b).len ≤ n := (Pol.len_le _).mpr fun i hi => by
  rw [Pol.co_sub, (Pol.len_le a).mp h i hi, (Pol.len_le b).mp h2 i hi]; rfl
theorem Pol.add_len (a b : Pol p) {n : Nat} (h : a.len ≤ n) (h2 : b.len ≤ n) : (a + b).len ≤ n := (Pol.len_le _).mpr fun i hi => by
  rw [Pol.co_add, (Pol.len_le a).mp h i hi, (Pol.len_le b).mp h2 i hi]; rfl
theorem Pol.neg_len (a : Pol p) {n : Nat} (h : a.len ≤ n) : (-a).len ≤ n := (Pol.len_le _).mpr fun i hi => by
  rw [Pol.co_neg, (Pol.len_le a).mp h i hi]; rfl
theorem Pol.mul_le (a b : Pol p) : (a * b).len ≤ a.len + b.len - 1 := by
  by_cases ha : a = 0
  · rw [ha, Pol.zero_mul, (Pol.len0 (0 : Pol p)).mpr rfl]; omega
  · by_cases hb : b = 0
    · rw [hb, Pol.mul_comm, Pol.zero_mul, (Pol.len0 (0 : Pol p)).mpr rfl]; omega
    · have := Pol.mul_len ha hb
      omega
/-- quotient and rest are told by the equation -/
theorem Pol.div_uniq {a b q r : Pol p} (hb : b ≠ 0) (h : a = q * b + r) (hr : r.len < b.len) : a.quo b = q ∧ a.rem b = r := by
  have hb' : b.r ≠ [] := fun z => hb ((Pol.nil_iff b).mp z)
  have h1 := Pol.div_eq a b hb'
  have h2 := Pol.rem_len a b hb'
  have h3 : (a.quo b - q) * b = r - a.rem b := by grind
  by_cases e : a.quo b - q = 0
  · have e1 : a.quo b = q := by grind
    exact ⟨e1, by grind⟩
  · have h4 := Pol.mul_len e hb
    have h5 := Pol.pos_len e
    have h6 : (r - a.rem b).len ≤ b.len - 1 := Pol.sub_len _ _ (by omega) (by have : (a.rem b).len < b.len := h2; omega)
    rw [h3] at h4
    omega
end
end DL

namespace DL
section
variable {p : Int} [hp : PC p]
/-! ### divisors -/
def Dv (d a : Pol p) : Prop := ∃ c, a = c * d
theorem Dv.mul {d a : Pol p} (h : Dv d a) (c : Pol p) : Dv d (c * a) := let ⟨e, h⟩ := h; ⟨c * e, by rw [h, Pol.mul_assoc]⟩
theorem Dv.add {d a b : Pol p} (h : Dv d a) (h2 : Dv d b) : Dv d (a + b) := let ⟨e, h⟩ := h; let ⟨e2, h2⟩ := h2; ⟨e + e2, by grind⟩
theorem Dv.sub {d a b : Pol p} (h : Dv d a) (h2 : Dv d b) : Dv d (a - b) := let ⟨e, h⟩ := h; let ⟨e2, h2⟩ := h2; ⟨e - e2, by grind⟩
theorem Dv.self (a : Pol p) : Dv a a := ⟨1, by grind⟩
theorem Dv.zero (a : Pol p) : Dv a 0 := ⟨0, by grind⟩
theorem Dv.len {d a : Pol p} (h : Dv d a) (ha : a ≠ 0) : d.len ≤ a.len := by
  obtain ⟨c, rfl⟩ := h
  have hc : c ≠ 0 := fun z => ha (by rw [z, Pol.zero_mul])
  have hd : d ≠ 0 := fun z => ha (by rw [z, Pol.mul_comm, Pol.zero_mul])
  have := Pol.mul_len hc hd
  have := Pol.pos_len hc
  omega
theorem gcd_spec : ∀ (n : Nat) (a b : Pol p), b.len ≤ n → ∃ g : Pol p, g.r = gcdF p n a.r b.r ∧ Dv g a ∧ Dv g b ∧ (∀ d, Dv d a → Dv d b → Dv d g) ∧ (b ≠ 0 → g ≠ 0 ∧ g.len ≤ b.len) ∧ (b = 0 → g = a)
  | 0, a, b, h => by
    have e : b = 0 := (Pol.len0 b).mp (by omega)
    exact ⟨a, rfl, Dv.self a, e ▸ Dv.zero a, fun d h _ => h, fun z => absurd e z, fun _ => rfl⟩
  | n + 1, a, b, h => by
    by_cases e : b = 0
    · refine ⟨a, ?_, Dv.self a, e ▸ Dv.zero a, fun d h _ => h, fun z => absurd e z, fun _ => rfl⟩
      show a.r = if b.r = [] then _ else _
      rw [if_pos ((Pol.nil_iff b).mpr e)]
    · have hb : b.r ≠ [] := fun z => e ((Pol.nil_iff b).mp z)
      have hl : (a.rem b).len < b.len := Pol.rem_len a b hb
      have hd := Pol.div_eq a b hb
      obtain ⟨g, g1, g2, g3, g4, g5, g6⟩ := gcd_spec n b (a.rem b) (by omega)
      refine ⟨g, ?_, ?_, g2, fun d h1 h2 => g4 d h2 ?_, fun _ => ?_, fun z => absurd z e⟩
      · rw [g1]
        show _ = if b.r = [] then _ else _
        rw [if_neg hb]
        rfl
      · rw [hd]
        exact (g2.mul _).add g3
      · have : a.rem b = a - a.quo b * b := by grind
        rw [this]
        exact h1.sub (h2.mul _)
      · by_cases z : a.rem b = 0
        · rw [g6 z]
          exact ⟨e, Nat.le_refl _⟩
        · obtain ⟨k1, k2⟩ := g5 z
          exact ⟨k1, by omega⟩
theorem gcdP_spec (a b : Pol p) : ∃ g : Pol p, g.r = gcdP p a.r b.r ∧ Dv g a ∧ Dv g b ∧ (∀ d, Dv d a → Dv d b → Dv d g) ∧ (b ≠ 0 → g ≠ 0 ∧ g.len ≤ b.len) ∧ (b = 0 → g = a) := gcd_spec b.len a b (Nat.le_refl _)
/-! ### scalars -/
theorem Pol.ld_rng (a : Pol p) : 0 ≤ a.ld ∧ a.ld < p := by
  rw [← Pol.ld_mod]
  exact mod_res hp.pos _
theorem scl_eq (c : Int) (a : Pol p) : sclP p c a.r = (Pol.C p c * a).r := by
  apply row_ext (trim_top _) (Pol.C p c * a).w.top
  intro i
  exact (get_scl c a.r i).trans (Pol.co_Cmul c a i).symm
theorem Pol.C_ne {c : Int} (h : c % p ≠ 0) : Pol.C p c ≠ 0 := fun z => h (by
  have := Pol.C_inj (c := c) (d := 0) z
  rw [this]; rfl)
theorem Pol.C_top (c : Int) : (Pol.C p c).Top 0 c := ⟨by rw [Pol.co_C, if_pos rfl, mm], fun i hi => by rw [Pol.co_C, if_neg (by omega)]⟩
theorem Pol.C_len {c : Int} (h : c % p ≠ 0) : (Pol.C p c).len = 1 := (Pol.C_top c).len h
theorem Pol.scl_len {c : Int} (h : c % p ≠ 0) (a : Pol p) : (Pol.C p c * a).len = a.len := by
  by_cases ha : a = 0
  · rw [ha, Pol.mul_comm, Pol.zero_mul]
  · have := Pol.mul_len (Pol.C_ne h) ha
    rw [Pol.C_len h] at this
    omega
theorem Pol.len1 {a : Pol p} (h : a.len = 1) : a = Pol.C p (a.co 0) := Pol.ext fun i => by
  rw [Pol.co_C]
  split
  · rename_i e
    rw [e, a.mod]
  · exact (Pol.len_le a).mp (Nat.le_of_eq h) i (by omega)
theorem inv_mod {n : Int} (h0 : 0 < n) (h1 : n < p) : invI p n * n % p = 1 ∧ invI p n % p ≠ 0 := by
  obtain ⟨_, h, a, b⟩ := inv_ok hp.pr h0 h1
  exact ⟨h, by rw [Int.emod_eq_of_lt (by omega) b]; omega⟩
theorem Pol.C1 : Pol.C p 1 = 1 := rfl
theorem C_inv {n : Int} (h0 : 0 < n) (h1 : n < p) : Pol.C p (invI p n) * Pol.C p n = 1 := by
  rw [← Pol.C_mul, ← Pol.C1]
  apply Pol.eqC
  rw [(inv_mod h0 h1).1]
  have := hp.pr.ge
  exact (Int.emod_eq_of_lt (by omega) (by omega)).symm
theorem mon_len {a : Pol p} (ha : a ≠ 0) : (monP p a.r).length = a.len := by
  unfold monP
  split
  · rfl
  · have h := Pol.ld_rng a
    have h2 := Pol.ld_ne ha
    show (sclP p (invI p a.ld) a.r).length = _
    rw [scl_eq]
    exact Pol.scl_len (inv_mod (by omega) h.2).2 a
/-! ### square-free -/
def free0 (p : Int) (r : List Int) : Prop := (monZ p (gcdP p r (dervP p r))).length = 1
def Pol.drv (a : Pol p) : Pol p := ⟨dervP p a.r, wr_trim fun x hx => res_map (f := fun q : Int × Nat => (q.2 : Int) * q.1) hp.pos x (List.mem_of_mem_drop hx)⟩
theorem Pol.co_drv (a : Pol p) (i : Nat) : a.drv.co i = dv a.co i % p := get_drv _ i
theorem dv_congr {a b : Nat → Int} (h : Eqm p a b) (i : Nat) : dv a i % p = dv b i % p := emm rfl (h (i + 1))
theorem drv_mul (a b : Pol p) : (a * b).drv = a.drv * b + a * b.drv := Pol.extm fun i => by
  rw [Pol.co_drv, mm, Pol.co_add, mm, Pol.co_mul, Pol.co_mul, ← Int.add_emod, dv_congr (a := (a * b).co) (b := cv a.co b.co) (fun n => by rw [Pol.co_mul, mm]), cv_dv]
  exact ema (cv_congr (a := dv a.co) (a' := a.drv.co) (fun n => by rw [Pol.co_drv, mm]) (fun _ => rfl) i) (cv_congr (b := dv b.co) (b' := b.drv.co) (fun _ => rfl) (fun n => by rw [Pol.co_drv, mm]) i)
theorem drv_C (c : Int) (a : Pol p) : (Pol.C p c * a).drv = Pol.C p c * a.drv := Pol.extm fun i => by
  rw [Pol.co_drv, mm, Pol.co_Cmul, mm, dv_congr (a := (Pol.C p c * a).co) (b := fun n => c * a.co n) (fun n => by rw [Pol.co_Cmul, mm])]
  simp only [dv]
  rw [Int.mul_left_comm]
  exact emm rfl (by rw [Pol.co_drv, mm])
theorem free_gcd {a g : Pol p} (hg : g.r = gcdP p a.r a.drv.r) (h : free0 p a.r) : g ≠ 0 ∧ g.len = 1 := by
  unfold free0 at h
  rw [show gcdP p a.r (dervP p a.r) = g.r from hg.symm] at h
  have hn : g ≠ 0 := fun z => by
    rw [(Pol.nil_iff g).mpr z] at h
    exact absurd (show (0 : Nat) = 1 from h) (by decide)
  refine ⟨hn, ?_⟩
  unfold monZ at h
  rw [if_neg (fun z => hn ((Pol.nil_iff g).mp z)), mon_len hn] at h
  exact h
theorem free_nosq {f : Pol p} (h : free0 p f.r) (hl : 2 ≤ f.len) (P : Pol p) : f ≠ P * P := fun e => by
  obtain ⟨g, g1, g2, g3, g4, _, _⟩ := gcdP_spec f f.drv
  obtain ⟨h1, h2⟩ := free_gcd g1 h
  have d1 : Dv P f := ⟨P, e⟩
  have d2 : Dv P f.drv := by
    rw [e, drv_mul]
    exact ((Dv.self P).mul _).add (by rw [Pol.mul_comm]; exact (Dv.self P).mul _)
  have d3 := (g4 P d1 d2).len h1
  have hP : P ≠ 0 := fun z => by
    rw [e, z, Pol.zero_mul, (Pol.len0 (0 : Pol p)).mpr rfl] at hl
    omega
  have := Pol.mul_len hP hP
  rw [← e] at this
  omega
theorem free_scl {h : Pol p} {c : Int} (hc : c % p ≠ 0) (hf : free0 p h.r) : free0 p (Pol.C p c * h).r := by
  obtain ⟨g0, a1, a2, a3, a4, _, _⟩ := gcdP_spec h h.drv
  obtain ⟨n0, l0⟩ := free_gcd a1 hf
  obtain ⟨g, g1, g2, g3, g4, g5, g6⟩ := gcdP_spec (Pol.C p c * h) (Pol.C p c * h).drv
  obtain ⟨c0, c1⟩ := mod_res hp.pos c
  have hinv : Pol.C p (invI p (c % p)) * Pol.C p c = 1 := by
    rw [Pol.eqC (c := c) (d := c % p) (mm c).symm]
    exact C_inv (by omega) c1
  have b1 : Dv g h := by
    have : h = Pol.C p (invI p (c % p)) * (Pol.C p c * h) := by grind
    rw [this]
    exact g2.mul _
  have b2 : Dv g h.drv := by
    have : h.drv = Pol.C p (invI p (c % p)) * (Pol.C p c * h).drv := by rw [drv_C]; grind
    rw [this]
    exact g3.mul _
  have b3 := (a4 g b1 b2).len n0
  have hn : g ≠ 0 := fun z => by
    obtain ⟨q, hq⟩ := a4 g b1 b2
    rw [z, Pol.mul_comm, Pol.zero_mul] at hq
    exact n0 hq
  unfold free0
  rw [show gcdP p (Pol.C p c * h).r (dervP p (Pol.C p c * h).r) = g.r from g1.symm]
  unfold monZ
  rw [if_neg (fun z => hn ((Pol.nil_iff g).mp z)), mon_len hn]
  have := Pol.pos_len hn
  omega
end
end DL

namespace DL
section
variable {p : Int} [hp : PC p]
/-! ### the chain -/
structure Fd (f S : Pol p) (w : Nat) (s : Int) : Prop where
  w1 : 1 ≤ w
  s0 : s % p ≠ 0
  top : S.Top w s
  ft : f.Top (w + w) (s * s)
  rest : (f - S * S).len ≤ w
  nosq : ∀ P, f ≠ P * P
theorem two_ne (hp : Pr p) : (2 : Int) % p ≠ 0 := by rcases hp with rfl | rfl | rfl <;> decide
structure Ch (f S : Pol p) (w : Nat) (s : Int) (P Q : Pol p) : Prop where
  q0 : Q ≠ 0
  ql : Q.len ≤ w
  dv : Dv Q (f - P * P)
  tp : ∃ t, t % p ≠ 0 ∧ (P + S).Top w t
def nA (S P Q : Pol p) : Pol p := (P + S).quo Q
def nP (S P Q : Pol p) : Pol p := nA S P Q * Q - P
def nQ (f S P Q : Pol p) : Pol p := (f - nP S P Q * nP S P Q).quo Q
structure Stp (f S : Pol p) (w : Nat) (s : Int) (P Q : Pol p) : Prop where
  al : (nA S P Q).len + Q.len = w + 2
  pt : (nP S P Q).Top w s
  qq : Q * nQ f S P Q = f - nP S P Q * nP S P Q
  nx : Ch f S w s (nP S P Q) (nQ f S P Q)
variable {f S P Q : Pol p} {w : Nat} {s : Int}
theorem Pol.nn {a : Pol p} (h : a ≠ 0) : a.r ≠ [] := fun z => h ((Pol.nil_iff a).mp z)
theorem ch_step (F : Fd f S w s) (h : Ch f S w s P Q) : Stp f S w s P Q := by
  obtain ⟨t, t0, tt⟩ := h.tp
  have d1 : P + S = nA S P Q * Q + (P + S).rem Q := Pol.div_eq (P + S) Q (Pol.nn h.q0)
  have d2 : ((P + S).rem Q).len < Q.len := Pol.rem_len (P + S) Q (Pol.nn h.q0)
  have hql := h.ql
  have hq1 := Pol.pos_len h.q0
  have w1 := F.w1
  generalize hr : (P + S).rem Q = rm at d1 d2
  have e1 : nA S P Q * Q = P + S - rm := by grind
  have t1 : (nA S P Q * Q).Top w t := by
    rw [e1]
    exact (tt.sub (Pol.Top.low (by omega))).congr (by rw [Int.sub_zero])
  have al : (nA S P Q * Q).len = w + 1 := t1.len t0
  have a0 : nA S P Q ≠ 0 := fun z => t1.ne t0 (by rw [z, Pol.zero_mul])
  have ml := Pol.mul_len a0 h.q0
  have ep : nP S P Q = S - rm := by
    show nA S P Q * Q - P = _
    rw [e1]
    grind
  have pt : (nP S P Q).Top w s := by
    rw [ep]
    exact (F.top.sub (Pol.Top.low (by omega))).congr (by rw [Int.sub_zero])
  obtain ⟨Z, hZ⟩ := h.dv
  have eq0 : f - nP S P Q * nP S P Q = (Z + nA S P Q * P + nA S P Q * P - nA S P Q * nA S P Q * Q) * Q + 0 := by
    show f - (nA S P Q * Q - P) * (nA S P Q * Q - P) = _
    grind
  have qq : Q * nQ f S P Q = f - nP S P Q * nP S P Q := by
    have h1 := (Pol.div_uniq h.q0 eq0 (by rw [(Pol.len0 (0 : Pol p)).mpr rfl]; omega)).1
    show Q * (f - nP S P Q * nP S P Q).quo Q = _
    rw [h1]
    grind
  have q0 : nQ f S P Q ≠ 0 := fun z => F.nosq (nP S P Q) (by
    rw [z, Pol.mul_comm, Pol.zero_mul] at qq
    grind)
  have e2 : f - nP S P Q * nP S P Q = (f - S * S) + rm * (S + nP S P Q) := by
    rw [ep]
    grind
  have l1 : (S + nP S P Q).len ≤ w + 1 := Pol.add_len _ _ F.top.le pt.le
  have l2 := Pol.mul_le rm (S + nP S P Q)
  have l3 : (f - nP S P Q * nP S P Q).len ≤ Q.len + w - 1 := by
    rw [e2]
    refine Pol.add_len _ _ ?_ ?_
    · have := F.rest
      omega
    · omega
  have l4 := Pol.mul_len h.q0 q0
  rw [qq] at l4
  refine ⟨by omega, pt, qq, q0, by omega, ⟨Q, by grind⟩, s + s, ?_, pt.add F.top⟩
  rw [show s + s = 2 * s by omega]
  exact res_mul_ne hp.pr (two_ne hp.pr) F.s0
theorem ch_init (F : Fd f S w s) : Ch f S w s 0 1 := by
  have l1 : (1 : Pol p).len = 1 := Pol.C_len (c := 1) (by rcases hp.pr with rfl | rfl | rfl <;> decide)
  refine ⟨fun z => ?_, by have := F.w1; omega, ⟨f, by grind⟩, s, F.s0, ?_⟩
  · rw [z, (Pol.len0 (0 : Pol p)).mpr rfl] at l1
    omega
  · have : (0 : Pol p) + S = S := by grind
    rw [this]
    exact F.top
/-! ### the fractions -/
structure Cn (f P Q U V U1 V1 e : Pol p) : Prop where
  h1 : P * U + Q * U1 = f * V
  h2 : P * V + Q * V1 = U
  h3 : U * V1 - V * U1 = e
theorem cn_step {P' Q' A U V U1 V1 e : Pol p} (h : Cn f P Q U V U1 V1 e) (q0 : Q ≠ 0) (hP : P' = A * Q - P) (hQ : Q * Q' = f - P' * P') : Cn f P' Q' (A * U + U1) (A * V + V1) U V (-e) := by
  obtain ⟨h1, h2, h3⟩ := h
  refine ⟨Pol.cancel q0 ?_, Pol.cancel q0 ?_, ?_⟩
  · grind
  · grind
  · grind
theorem cn_norm {U V U1 V1 e : Pol p} (h : Cn f P Q U V U1 V1 e) : U * U - f * (V * V) = Q * e := by
  obtain ⟨h1, h2, h3⟩ := h
  grind
structure Tp (w : Nat) (s : Int) (k : Nat) (U V U1 V1 : Pol p) (l : Int) : Prop where
  ut : U.Top (k + w) l
  vt : ∃ l', V.Top k l' ∧ s * l' % p = l % p
  l0 : l % p ≠ 0
  u1 : U1.len ≤ k + w
  v1 : V1.len ≤ k
theorem tp_step {k : Nat} {A U V U1 V1 : Pol p} {l : Int} (h : Tp w s k U V U1 V1 l) (ha : 2 ≤ A.len) : Tp w s (k + (A.len - 1)) (A * U + U1) (A * V + V1) U V (A.ld * l) := by
  have a0 : A ≠ 0 := fun z => by
    rw [z, (Pol.len0 (0 : Pol p)).mpr rfl] at ha
    omega
  have at_ := Pol.top_of a0
  obtain ⟨l', v1, v2⟩ := h.vt
  have hu := h.u1
  have hv := h.v1
  refine ⟨?_, ⟨A.ld * l', ?_, ?_⟩, res_mul_ne hp.pr (Pol.ld_nm a0) h.l0, ?_, ?_⟩
  · have := (at_.mul h.ut).add (Pol.Top.low (a := U1) (n := A.len - 1 + (k + w)) (by omega))
    rw [show A.len - 1 + (k + w) = k + (A.len - 1) + w by omega] at this
    exact this.congr (by rw [Int.add_zero])
  · have := (at_.mul v1).add (Pol.Top.low (a := V1) (n := A.len - 1 + k) (by omega))
    rw [show A.len - 1 + k = k + (A.len - 1) by omega] at this
    exact this.congr (by rw [Int.add_zero])
  · rw [Int.mul_left_comm]
    exact emm rfl v2
  · have := h.ut.le
    omega
  · have := v1.le
    omega
/-! ### the sequences -/
def chN (f S : Pol p) : Nat → Pol p × Pol p
  | 0 => (0, 1)
  | n + 1 => (nP S (chN f S n).1 (chN f S n).2, nQ f S (chN f S n).1 (chN f S n).2)
def sP (f S : Pol p) (n : Nat) : Pol p := (chN f S n).1
def sQ (f S : Pol p) (n : Nat) : Pol p := (chN f S n).2
def sA (f S : Pol p) (n : Nat) : Pol p := nA S (sP f S n) (sQ f S n)
def sU (f S : Pol p) : Nat → (Pol p × Pol p) × (Pol p × Pol p)
  | 0 => ((1, 0), (0, 1))
  | n + 1 => ((sA f S n * (sU f S n).1.1 + (sU f S n).2.1, sA f S n * (sU f S n).1.2 + (sU f S n).2.2), (sU f S n).1)
/-- the product of the leads, the sum of the degrees, the sign -/
def lp (f S : Pol p) : Nat → Int
  | 0 => 1
  | n + 1 => lp f S n * (sA f S n).ld % p
def ln (f S : Pol p) : Nat → Nat
  | 0 => 0
  | n + 1 => ln f S n + ((sA f S n).len - 1)
def sg : Nat → Int
  | 0 => 1
  | n + 1 => -(sg n)
theorem ch_all (F : Fd f S w s) : ∀ n, Ch f S w s (sP f S n) (sQ f S n)
  | 0 => ch_init F
  | n + 1 => (ch_step F (ch_all F n)).nx
theorem stp_all (F : Fd f S w s) (n : Nat) : Stp f S w s (sP f S n) (sQ f S n) := ch_step F (ch_all F n)
theorem cn_all (F : Fd f S w s) : ∀ n, Cn f (sP f S n) (sQ f S n) (sU f S n).1.1 (sU f S n).1.2 (sU f S n).2.1 (sU f S n).2.2 (Pol.C p (sg n))
  | 0 => by
    show Cn f 0 1 1 0 0 1 1
    exact ⟨by grind, by grind, by grind⟩
  | n + 1 => by
    have h := cn_step (A := sA f S n) (P' := sP f S (n + 1)) (Q' := sQ f S (n + 1)) (cn_all F n) (ch_all F n).q0 rfl (stp_all F n).qq
    rw [show Pol.C p (sg (n + 1)) = -Pol.C p (sg n) from Pol.C_neg _]
    exact h
theorem sA_len (F : Fd f S w s) (n : Nat) : 2 ≤ (sA f S n).len := by
  have h := (stp_all F n).al
  have h2 := (ch_all F n).ql
  show 2 ≤ (nA S (sP f S n) (sQ f S n)).len
  omega
theorem tp_all (F : Fd f S w s) : ∀ n, ∃ k, ln f S (n + 1) = k + w ∧ ∃ l, l % p = lp f S (n + 1) % p ∧ Tp w s k (sU f S (n + 1)).1.1 (sU f S (n + 1)).1.2 (sU f S (n + 1)).2.1 (sU f S (n + 1)).2.2 l
  | 0 => by
    have e0 : sA f S 0 = S := by
      have h1 : S.quo 1 = S := (Pol.div_uniq (a := S) (b := 1) (q := S) (r := 0) (ch_init F).q0 (by grind) (by
        rw [(Pol.len0 (0 : Pol p)).mpr rfl]
        exact Pol.pos_len (ch_init F).q0)).1
      show nA S 0 1 = S
      have h2 : (0 : Pol p) + S = S := by grind
      unfold nA
      rw [h2, h1]
    have e1 : sU f S 1 = ((S, 1), (1, 0)) := by
      show ((sA f S 0 * 1 + 0, sA f S 0 * 0 + 1), ((1 : Pol p), (0 : Pol p))) = _
      rw [e0]
      have h1 : S * 1 + 0 = S := by grind
      have h2 : S * 0 + 1 = (1 : Pol p) := by grind
      rw [h1, h2]
    have sl := F.top.len F.s0
    have w1 := F.w1
    refine ⟨0, ?_, s, ?_, ?_⟩
    · show 0 + ((sA f S 0).len - 1) = _
      rw [e0, sl]
      omega
    · show _ = (1 * (sA f S 0).ld % p) % p
      rw [e0, mm, Int.one_mul, F.top.ld F.s0, mm]
    · rw [e1]
      refine ⟨?_, ⟨1, Pol.C_top (p := p) 1, by rw [Int.mul_one]⟩, F.s0, ?_, ?_⟩
      · rw [Nat.zero_add]; exact F.top
      · show (Pol.C p 1).len ≤ _
        have := (Pol.C_top (p := p) 1).le
        omega
      · exact Nat.le_of_eq ((Pol.len0 (0 : Pol p)).mpr rfl)
  | n + 1 => by
    obtain ⟨k, h1, l, h2, h3⟩ := tp_all F n
    have ha := sA_len F (n + 1)
    have h4 := tp_step (A := sA f S (n + 1)) h3 ha
    refine ⟨k + ((sA f S (n + 1)).len - 1), ?_, (sA f S (n + 1)).ld * l, ?_, h4⟩
    · show ln f S (n + 1) + ((sA f S (n + 1)).len - 1) = _
      omega
    · show _ = (lp f S (n + 1) * (sA f S (n + 1)).ld % p) % p
      rw [mm, Int.mul_comm]
      exact emm h2 rfl
end
end DL

namespace DL
section
variable {p : Int} [hp : PC p]
variable {f S : Pol p} {w : Nat} {s : Int}
theorem ln_pos (F : Fd f S w s) : ∀ n, 1 ≤ n → 1 ≤ ln f S n
  | 0, h => absurd h (by decide)
  | n + 1, _ => by
    have := sA_len F n
    show 1 ≤ ln f S n + ((sA f S n).len - 1)
    omega
theorem lp_ne (F : Fd f S w s) : ∀ n, lp f S n % p ≠ 0
  | 0 => by
    show (1 : Int) % p ≠ 0
    rcases hp.pr with h | h | h <;> rw [h] <;> decide
  | n + 1 => by
    show (lp f S n * (sA f S n).ld % p) % p ≠ 0
    rw [mm]
    have a0 : sA f S n ≠ 0 := fun z => by
      have := sA_len F n
      rw [z, (Pol.len0 (0 : Pol p)).mpr rfl] at this
      omega
    exact res_mul_ne hp.pr (lp_ne F n) (Pol.ld_nm a0)
theorem lp_rng : ∀ n, 0 < p → lp f S (n + 1) % p = lp f S (n + 1) := fun n _ => mm _
theorem sg_ne : ∀ n, sg n = 1 ∨ sg n = -1
  | 0 => .inl rfl
  | n + 1 => by
    show -(sg n) = 1 ∨ -(sg n) = -1
    rcases sg_ne n with h | h <;> rw [h]
    · exact .inr rfl
    · exact .inl rfl
theorem sg_par : ∀ n, sg n = if n % 2 = 0 then 1 else -1
  | 0 => rfl
  | n + 1 => by
    show -(sg n) = _
    rw [sg_par n]
    by_cases h : n % 2 = 0
    · rw [if_pos h, if_neg (by omega)]
    · rw [if_neg h, if_pos (by omega)]; rfl
/-! ### a unit -/
/-- u + v y: u of degree L with the entry x, v with s times its entry being y times x (y is 1 or -1), the norm N -/
structure Un (f : Pol p) (w : Nat) (s : Int) (L : Nat) (x y : Int) (u v : Pol p) (N : Int) : Prop where
  ut : u.Top L x
  vt : ∃ k z, k + w = L ∧ v.Top k z ∧ s * z % p = y * x % p
  x0 : x % p ≠ 0
  n0 : N % p ≠ 0
  nm : u * u - f * (v * v) = Pol.C p N
def scP (c : Int) (a : Pol p × Pol p) : Pol p × Pol p := (Pol.C p c * a.1, Pol.C p c * a.2)
/-- the residue by which the pair is divided -/
def ic (f S : Pol p) (m : Nat) : Int := invI p (lp f S m)
def unitP (f S : Pol p) (m : Nat) : Pol p × Pol p := scP (ic f S m) (sU f S m).1
/-- the norm as the program tells it -/
def nrm (f S : Pol p) (m : Nat) : Int := sg m * (sQ f S m).ld * ic f S m * ic f S m % p
theorem lp_inv (F : Fd f S w s) (n : Nat) : ic f S (n + 1) * lp f S (n + 1) % p = 1 ∧ 0 < ic f S (n + 1) ∧ ic f S (n + 1) < p ∧ 0 < lp f S (n + 1) ∧ lp f S (n + 1) < p := by
  have h1 := lp_ne F (n + 1)
  have h2 := lp_rng (f := f) (S := S) n hp.pos
  have h3 := mod_res hp.pos (lp f S (n + 1))
  rw [h2] at h1 h3
  obtain ⟨_, a, b, c⟩ := inv_ok hp.pr (n := lp f S (n + 1)) (by omega) h3.2
  exact ⟨a, b, c, by omega, h3.2⟩
theorem one_mod : (1 : Int) % p = 1 := by
  have := hp.pr.ge
  exact Int.emod_eq_of_lt (by omega) (by omega)
theorem sm_ne {x : Int} (h : 0 < x) (h2 : x < p) : x % p ≠ 0 := by rw [Int.emod_eq_of_lt (by omega) h2]; omega
theorem sg_nm (n : Nat) : sg n % p ≠ 0 := by
  rcases sg_ne n with h | h <;> rw [h] <;> rcases hp.pr with h | h | h <;> rw [h] <;> decide
theorem unit_un (F : Fd f S w s) {m : Nat} (hm : 1 ≤ m) (hq : (sQ f S m).len = 1) : Un f w s (ln f S m) 1 1 (unitP f S m).1 (unitP f S m).2 (nrm f S m) := by
  obtain ⟨n, rfl⟩ : ∃ n, m = n + 1 := ⟨m - 1, by omega⟩
  obtain ⟨k, h1, l, h2, h3⟩ := tp_all F n
  obtain ⟨i1, i2, i3, i4, i5⟩ := lp_inv F n
  have C0 := Pol.C_top (p := p) (ic f S (n + 1))
  have hl : ic f S (n + 1) * l % p = 1 % p := by
    rw [emm (rfl : ic f S (n + 1) % p = _) h2, i1, one_mod]
  obtain ⟨l', v1, v2⟩ := h3.vt
  have hn := cn_norm (cn_all F (n + 1))
  have q0 := (ch_all F (n + 1)).q0
  have hQ : sQ f S (n + 1) = Pol.C p (sQ f S (n + 1)).ld := by
    have := Pol.len1 hq
    have e : (sQ f S (n + 1)).ld = (sQ f S (n + 1)).co 0 := by rw [Pol.ld_co q0, hq]
    rw [e]
    exact this
  refine ⟨?_, ⟨k, ic f S (n + 1) * l', h1.symm, ?_, ?_⟩, ?_, ?_, ?_⟩
  · have := C0.mul h3.ut
    rw [Nat.zero_add, ← h1] at this
    exact this.congr hl
  · have := C0.mul v1
    rw [Nat.zero_add] at this
    exact this
  · rw [Int.mul_left_comm, emm rfl v2, hl]
    rfl
  · rw [one_mod]; decide
  · show (_ % p) % p ≠ 0
    rw [mm]
    exact res_mul_ne hp.pr (res_mul_ne hp.pr (res_mul_ne hp.pr (sg_nm _) (Pol.ld_nm q0)) (sm_ne i2 i3)) (sm_ne i2 i3)
  · show (Pol.C p _ * _) * (Pol.C p _ * _) - f * ((Pol.C p _ * _) * (Pol.C p _ * _)) = Pol.C p (_ % p)
    rw [Pol.eqC (mm _), Pol.C_mul, Pol.C_mul, Pol.C_mul, ← hQ]
    generalize Pol.C p (ic f S (n + 1)) = c at *
    grind
/-! ### powers -/
def prP (f : Pol p) (a b : Pol p × Pol p) : Pol p × Pol p := (a.1 * b.1 + f * (a.2 * b.2), a.1 * b.2 + a.2 * b.1)
def pwP (f : Pol p) (u : Pol p × Pol p) : Nat → Pol p × Pol p
  | 0 => (1, 0)
  | n + 1 => prP f (pwP f u n) u
def pw2 : Nat → Int → Int
  | 0, _ => 1
  | 1, x => x
  | n + 2, x => 2 * pw2 (n + 1) x * x
theorem pw2_ne {x : Int} (h : x % p ≠ 0) : ∀ n, pw2 n x % p ≠ 0
  | 0 => by
    show (1 : Int) % p ≠ 0
    rw [one_mod]; decide
  | 1 => h
  | n + 2 => res_mul_ne hp.pr (res_mul_ne hp.pr (two_ne hp.pr) (pw2_ne h (n + 1))) h
theorem un_norm {u v : Pol p} {N L : Nat} {x y M : Int} (h : Un f w s L x y u v M) : ∀ n, (pwP f (u, v) n).1 * (pwP f (u, v) n).1 - f * ((pwP f (u, v) n).2 * (pwP f (u, v) n).2) = Pol.C p (M ^ n)
  | 0 => by
    rw [Int.pow_zero]
    show (1 : Pol p) * 1 - f * (0 * 0) = 1
    grind
  | n + 1 => by
    have ih := un_norm (N := N) h n
    have hn := h.nm
    rw [Int.pow_succ, Pol.C_mul, ← ih, ← hn]
    show ((pwP f (u, v) n).1 * u + f * ((pwP f (u, v) n).2 * v)) * ((pwP f (u, v) n).1 * u + f * ((pwP f (u, v) n).2 * v)) - f * (((pwP f (u, v) n).1 * v + (pwP f (u, v) n).2 * u) * ((pwP f (u, v) n).1 * v + (pwP f (u, v) n).2 * u)) = _
    grind
theorem un_pow {u v : Pol p} {L : Nat} {x y M : Int} (hf : f.Top (w + w) (s * s)) (h : Un f w s L x y u v M) (hy : y * y = 1) : ∀ n, (pwP f (u, v) (n + 1)).1.Top ((n + 1) * L) (pw2 (n + 1) x) ∧ ∃ k z, k + w = (n + 1) * L ∧ (pwP f (u, v) (n + 1)).2.Top k z ∧ s * z % p = y * pw2 (n + 1) x % p
  | 0 => by
    obtain ⟨k, z, h1, h2, h3⟩ := h.vt
    have e : pwP f (u, v) 1 = (u, v) := by
      show ((1 : Pol p) * u + f * (0 * v), (1 : Pol p) * v + 0 * u) = _
      have e1 : (1 : Pol p) * u + f * (0 * v) = u := by grind
      have e2 : (1 : Pol p) * v + 0 * u = v := by grind
      rw [e1, e2]
    rw [e, show (0 + 1) * L = L by omega]
    exact ⟨h.ut, k, z, h1, h2, h3⟩
  | n + 1 => by
    obtain ⟨i1, K, Z, i2, i3, i4⟩ := un_pow hf h hy n
    obtain ⟨k, z, h1, h2, h3⟩ := h.vt
    have eL : (n + 1 + 1) * L = (n + 1) * L + L := Nat.succ_mul _ _
    have m1 : s * s * (Z * z) % p = pw2 (n + 1) x * x % p := by
      have e : s * s * (Z * z) = (s * Z) * (s * z) := by
        rw [Int.mul_assoc, Int.mul_assoc, Int.mul_left_comm s Z]
      have e2 : y * pw2 (n + 1) x * (y * x) = pw2 (n + 1) x * x := by
        rw [Int.mul_assoc, Int.mul_left_comm (pw2 (n + 1) x), ← Int.mul_assoc, hy, Int.one_mul]
      rw [e, emm i4 h3, e2]
    refine ⟨?_, K + L, pw2 (n + 1) x * z + Z * x, by omega, ?_, ?_⟩
    · have t1 := i1.mul h.ut
      have t2 := hf.mul (i3.mul h2)
      rw [show w + w + (K + k) = (n + 1) * L + L by omega] at t2
      rw [eL]
      refine (t1.add t2).congr ?_
      rw [ema rfl m1, show pw2 (n + 1 + 1) x = 2 * pw2 (n + 1) x * x from rfl, Int.mul_assoc]
      congr 1
      omega
    · have t1 := i1.mul h2
      have t2 := i3.mul h.ut
      rw [show (n + 1) * L + k = K + L by omega] at t1
      exact t1.add t2
    · have a1 : s * (pw2 (n + 1) x * z) % p = y * (pw2 (n + 1) x * x) % p := by
        rw [Int.mul_left_comm, emm rfl h3, Int.mul_left_comm]
      have a2 : s * (Z * x) % p = y * (pw2 (n + 1) x * x) % p := by
        rw [← Int.mul_assoc, emm i4 rfl, Int.mul_assoc]
      rw [Int.mul_add, ema a1 a2, show pw2 (n + 1 + 1) x = 2 * pw2 (n + 1) x * x from rfl, Int.mul_assoc 2, ← Int.mul_add]
      congr 2
      omega
end
end DL

namespace DL
section
variable {p : Int} [hp : PC p]
variable {f S : Pol p} {w : Nat} {s : Int}
def ngP (u : Pol p × Pol p) (N : Int) : Pol p × Pol p := scP (invI p N) (u.1, -u.2)
def mdP (f : Pol p) (u : Pol p × Pol p) (N : Int) (t : Int) : Pol p × Pol p := pwP f (if t < 0 then ngP u N else u) t.natAbs
theorem ng_un {u v : Pol p} {L : Nat} {N : Int} (h : Un f w s L 1 1 u v N) (hN : 0 < N ∧ N < p) : Un f w s L (invI p N) (-1) (ngP (u, v) N).1 (ngP (u, v) N).2 (invI p N) := by
  obtain ⟨i1, i2⟩ := inv_mod (p := p) hN.1 hN.2
  have C0 := Pol.C_top (p := p) (invI p N)
  obtain ⟨k, z, h1, h2, h3⟩ := h.vt
  refine ⟨?_, ⟨k, invI p N * -z, h1, ?_, ?_⟩, i2, i2, ?_⟩
  · have := C0.mul h.ut
    rw [Nat.zero_add, Int.mul_one] at this
    exact this
  · have := C0.mul h2.neg
    rw [Nat.zero_add] at this
    exact this
  · have e : -(s * z) % p = -1 % p := by rw [← neg_mm, h3, Int.one_mul, neg_mm]
    rw [Int.mul_left_comm, Int.mul_neg, Int.mul_comm]
    exact emm e rfl
  · have hn := h.nm
    have hc := C_inv (p := p) hN.1 hN.2
    show (Pol.C p (invI p N) * u) * (Pol.C p (invI p N) * u) - f * ((Pol.C p (invI p N) * -v) * (Pol.C p (invI p N) * -v)) = _
    generalize Pol.C p (invI p N) = c at *
    generalize Pol.C p N = d at *
    grind
/-- the unit of the sign of t -/
theorem md_un {u v : Pol p} {L : Nat} {N : Int} (h : Un f w s L 1 1 u v N) (hN : 0 < N ∧ N < p) (t : Int) : ∃ x y M, (x = if t < 0 then invI p N else 1) ∧ (y = if t < 0 then -1 else 1) ∧ y * y = 1 ∧ M % p ≠ 0 ∧ Un f w s L x y (if t < 0 then ngP (u, v) N else (u, v)).1 (if t < 0 then ngP (u, v) N else (u, v)).2 M := by
  by_cases ht : t < 0
  · refine ⟨invI p N, -1, invI p N, by rw [if_pos ht], by rw [if_pos ht], rfl, (inv_mod hN.1 hN.2).2, ?_⟩
    rw [if_pos ht]
    exact ng_un h hN
  · refine ⟨1, 1, N, by rw [if_neg ht], by rw [if_neg ht], rfl, h.n0, ?_⟩
    rw [if_neg ht]
    exact h
theorem pw_ne {M : Int} (h : M % p ≠ 0) : ∀ n : Nat, M ^ n % p ≠ 0
  | 0 => by rw [Int.pow_zero, one_mod]; decide
  | n + 1 => by rw [Int.pow_succ]; exact res_mul_ne hp.pr (pw_ne h n) h
theorem md_len {u v : Pol p} {L : Nat} {N : Int} (hf : f.Top (w + w) (s * s)) (h : Un f w s L 1 1 u v N) (hN : 0 < N ∧ N < p) (t : Int) : (mdP f (u, v) N t).1.len = t.natAbs * L + 1 := by
  obtain ⟨x, y, M, _, _, hy, _, hu⟩ := md_un h hN t
  unfold mdP
  cases t.natAbs with
  | zero =>
    show (Pol.C p 1).len = _
    rw [Pol.C_len (by rw [one_mod]; decide)]
    omega
  | succ n => exact (un_pow hf hu hy n).1.len (pw2_ne hu.x0 _)
theorem md_norm {u v : Pol p} {L : Nat} {N : Int} (h : Un f w s L 1 1 u v N) (hN : 0 < N ∧ N < p) (t : Int) : ∃ M, M % p ≠ 0 ∧ (mdP f (u, v) N t).1 * (mdP f (u, v) N t).1 - f * ((mdP f (u, v) N t).2 * (mdP f (u, v) N t).2) = Pol.C p M := by
  obtain ⟨x, y, M, _, _, hy, hM, hu⟩ := md_un h hN t
  exact ⟨M ^ t.natAbs, pw_ne hM _, un_norm (N := L) hu t.natAbs⟩
theorem sc_norm {a b : Pol p} {c M : Int} (hc : c % p ≠ 0) (hM : M % p ≠ 0) (h : a * a - f * (b * b) = Pol.C p M) : (((scP c (a, b)).1 * (scP c (a, b)).1 - f * ((scP c (a, b)).2 * (scP c (a, b)).2))).len = 1 := by
  have e : (scP c (a, b)).1 * (scP c (a, b)).1 - f * ((scP c (a, b)).2 * (scP c (a, b)).2) = Pol.C p (c * c * M) := by
    rw [Pol.C_mul, Pol.C_mul, ← h]
    show (Pol.C p c * a) * (Pol.C p c * a) - f * ((Pol.C p c * b) * (Pol.C p c * b)) = _
    grind
  rw [e]
  exact Pol.C_len (res_mul_ne hp.pr (res_mul_ne hp.pr hc hc) hM)
/-! ### what is told of a unit -/
def partsP (p : Int) (s : Int) (L : Nat) (N : Int) (a b : List Int) : Int × Int :=
  if b = [] then (a.getLastD 0, 0) else
    let e := (a.length - 1) / L
    let r := a.getLastD 0 * invI p (2 ^ (e - 1) % p) % p
    if (a.getLastD 0 + s * b.getLastD 0) % p = 0 then (r * (N ^ e % p) % p, -(e : Int)) else (r, (e : Int))
theorem pw2_eq (x : Int) : ∀ n, pw2 (n + 1) x = 2 ^ n * x ^ (n + 1)
  | 0 => by rw [Int.pow_zero, Int.one_mul, Int.pow_succ, Int.pow_zero, Int.one_mul]; rfl
  | n + 1 => by
    show 2 * pw2 (n + 1) x * x = _
    rw [pw2_eq x n, Int.pow_succ x (n + 1), Int.pow_succ 2 n]
    rw [← Int.mul_assoc, ← Int.mul_assoc, Int.mul_comm (2 ^ n) 2]
theorem two_pow (n : Nat) : 0 < (2 : Int) ^ n % p ∧ (2 : Int) ^ n % p < p := by
  have := pw_ne (p := p) (two_ne hp.pr) n
  have := mod_res hp.pos ((2 : Int) ^ n)
  omega
theorem inv_two (n : Nat) (c : Int) : c * 2 ^ n * invI p (2 ^ n % p) % p = c % p := by
  obtain ⟨h1, h2⟩ := two_pow (p := p) n
  have i := (inv_mod h1 h2).1
  rw [Int.mul_assoc, Int.mul_comm (2 ^ n), emm (rfl : c % p = _) (show invI p (2 ^ n % p) * 2 ^ n % p = 1 % p from ?_), Int.mul_one]
  rw [← i, mm]
  exact emm rfl (mm _).symm
theorem parts_ok {u v : Pol p} {L : Nat} {N c : Int} (hL : 1 ≤ L) (hf : f.Top (w + w) (s * s)) (h : Un f w s L 1 1 u v N) (hN : 0 < N ∧ N < p) (h0 : 0 < c) (h1 : c < p) (t : Int) : partsP p s L N (scP c (mdP f (u, v) N t)).1.r (scP c (mdP f (u, v) N t)).2.r = (c, t) := by
  obtain ⟨x, y, M, hx, hy', hy, hM, hu⟩ := md_un h hN t
  have c0 : c % p ≠ 0 := sm_ne h0 h1
  have cm : c % p = c := Int.emod_eq_of_lt (by omega) h1
  by_cases ht0 : t.natAbs = 0
  · have ht : t = 0 := by omega
    subst ht
    have e1 : (scP c (mdP f (u, v) N 0)).1 = Pol.C p c := by
      show Pol.C p c * 1 = _
      grind
    have e2 : (scP c (mdP f (u, v) N 0)).2 = 0 := by
      show Pol.C p c * 0 = _
      grind
    rw [e1, e2]
    unfold partsP
    rw [if_pos ((Pol.nil_iff (0 : Pol p)).mpr rfl)]
    have : (Pol.C p c).ld = c := by rw [(Pol.C_top c).ld c0, cm]
    show ((Pol.C p c).ld, (0 : Int)) = _
    rw [this]
  · obtain ⟨n, hn⟩ : ∃ n, t.natAbs = n + 1 := ⟨t.natAbs - 1, by omega⟩
    obtain ⟨tu, k, z, hk, tv, hz⟩ := un_pow hf hu hy n
    have emd : mdP f (u, v) N t = pwP f ((if t < 0 then ngP (u, v) N else (u, v)).1, (if t < 0 then ngP (u, v) N else (u, v)).2) (n + 1) := by
      unfold mdP
      rw [hn]
    rw [← emd] at tu tv
    have pw0 := pw2_ne hu.x0 (n + 1)
    have ta : (scP c (mdP f (u, v) N t)).1.Top ((n + 1) * L) (c * pw2 (n + 1) x) := by
      have := (Pol.C_top (p := p) c).mul tu
      rw [Nat.zero_add] at this
      exact this
    have tb : (scP c (mdP f (u, v) N t)).2.Top k (c * z) := by
      have := (Pol.C_top (p := p) c).mul tv
      rw [Nat.zero_add] at this
      exact this
    have z0 : z % p ≠ 0 := fun e => by
      have : s * z % p = 0 := by rw [Int.mul_emod, e, Int.mul_zero]; rfl
      rw [hz, Int.mul_emod] at this
      have hy1 : y * (y * pw2 (n + 1) x) = pw2 (n + 1) x := by rw [← Int.mul_assoc, hy, Int.one_mul]
      apply pw0
      rw [← hy1, Int.mul_emod, Int.mul_emod y (pw2 (n + 1) x), this, Int.mul_zero]
      rfl
    have a0 := res_mul_ne hp.pr c0 pw0
    have b0 := res_mul_ne hp.pr c0 z0
    have la := ta.len a0
    have lda := ta.ld a0
    have ldb := tb.ld b0
    have hb : (scP c (mdP f (u, v) N t)).2.r ≠ [] := Pol.nn (tb.ne b0)
    generalize (scP c (mdP f (u, v) N t)).1 = A at *
    generalize (scP c (mdP f (u, v) N t)).2 = B at *
    unfold partsP
    rw [if_neg hb]
    have he : (A.r.length - 1) / L = n + 1 := by
      rw [show A.r.length = (n + 1) * L + 1 from la, Nat.add_sub_cancel]
      exact Nat.mul_div_cancel _ (by omega)
    simp only [he, Nat.add_sub_cancel]
    have la' : A.r.getLastD 0 = c * pw2 (n + 1) x % p := lda
    have lb' : B.r.getLastD 0 = c * z % p := ldb
    rw [la', lb']
    have hsum : (c * pw2 (n + 1) x % p + s * (c * z % p)) % p = (c * pw2 (n + 1) x + y * (c * pw2 (n + 1) x)) % p := by
      refine ema (mm _) ?_
      rw [emm (rfl : s % p = _) (mm (c * z)), Int.mul_left_comm, emm (rfl : c % p = _) hz, Int.mul_left_comm]
    rw [hsum]
    have hr : c * pw2 (n + 1) x % p * invI p (2 ^ n % p) % p = c * x ^ (n + 1) % p := by
      rw [emm (mm (c * pw2 (n + 1) x)) rfl, pw2_eq, Int.mul_comm (2 ^ n), ← Int.mul_assoc]
      exact inv_two n (c * x ^ (n + 1))
    by_cases ht : t < 0
    · rw [if_pos ht] at hx hy'
      have e0 : (c * pw2 (n + 1) x + y * (c * pw2 (n + 1) x)) % p = 0 := by
        rw [hy', Int.neg_mul, Int.one_mul, Int.add_right_neg]
        rfl
      rw [if_pos e0, hr]
      have i1 := (inv_mod (p := p) hN.1 hN.2).1
      have e1 : c * x ^ (n + 1) % p * (N ^ (n + 1) % p) % p = c := by
        rw [emm (mm _) (mm _), Int.mul_assoc, ← Int.mul_pow, hx]
        have : (invI p N * N) ^ (n + 1) % p = 1 % p := by
          generalize n + 1 = q
          induction q with
          | zero => rw [Int.pow_zero]
          | succ q ih => rw [Int.pow_succ, emm ih (show invI p N * N % p = 1 % p by rw [i1, one_mod])]; rfl
        rw [emm (rfl : c % p = _) this, Int.mul_one, cm]
      rw [e1]
      congr 1
      omega
    · rw [if_neg ht] at hx hy'
      have e0 : (c * pw2 (n + 1) x + y * (c * pw2 (n + 1) x)) % p ≠ 0 := by
        rw [hy', Int.one_mul, show c * pw2 (n + 1) x + c * pw2 (n + 1) x = 2 * (c * pw2 (n + 1) x) by omega]
        exact res_mul_ne hp.pr (two_ne hp.pr) a0
      rw [if_neg e0, hr, hx, Int.one_pow, Int.mul_one, cm]
      congr 1
      omega
end
end DL

namespace DL
open PySem PySem.Spec PyProof.Rows L2
/-! ### polynomials of a ring in expressions -/
section
variable {X : Cx} {δ : List Sl} {e1 e2 a b : Expr} {pos : Pos} {P : Program} {w : World} {K : PySem.W.Frag} {mg : Str → Option Value} {base : Heap} {k : Nat} {N : List Str} {sc : Scope} {p : Int} {r r1 r2 : List Int}
theorem x_degR (T : Tx K mg) (cg : Cg P w K mg base k N sc X) (ha : EvD X δ e1 (.poly p r)) (hn : 2 ≤ k := by decide) (hb : attributeBase e1 "degree" X.env (eval e1 X.env) = eval e1 X.env := by rfl) : EvD X δ (.Attribute e1 "degree" pos) (.int ((r.length : Int) - 1)) :=
  v_pr cg (sc_Poly T) (pp_Poly_degree T) (p_Poly_degree T) i_poly ⟨p, r, rfl, rfl⟩ ha hn hb
theorem x_ldR (T : Tx K mg) (cg : Cg P w K mg base k N sc X) (ha : EvD X δ e1 (.poly p r)) (hn : 2 ≤ k := by decide) (hb : attributeBase e1 "lead" X.env (eval e1 X.env) = eval e1 X.env := by rfl) : EvD X δ (.Attribute e1 "lead" pos) (.int (r.getLastD 0)) :=
  v_pr cg (sc_Poly T) (pp_Poly_lead T) (p_Poly_lead T) i_poly ⟨p, r, rfl, rfl⟩ ha hn hb
theorem x_primeR (T : Tx K mg) (cg : Cg P w K mg base k N sc X) (ha : EvD X δ e1 (.poly p r)) (hn : 2 ≤ k := by decide) (hb : attributeBase e1 "prime" X.env (eval e1 X.env) = eval e1 X.env := by rfl) : EvD X δ (.Attribute e1 "prime" pos) (.int p) :=
  v_pr cg (sc_Poly T) (pp_Poly_prime T) (p_Poly_prime T) i_poly ⟨p, r, rfl, rfl⟩ ha hn hb
theorem x_rowR (T : Tx K mg) (cg : Cg P w K mg base k N sc X) (ha : EvD X δ e1 (.poly p r)) (hn : 2 ≤ k := by decide) (hb : attributeBase e1 "entries" X.env (eval e1 X.env) = eval e1 X.env := by rfl) : EvD X δ (.Attribute e1 "entries" pos) (.tup (rowD r)) :=
  v_pr cg (sc_Poly T) (pp_Poly_entries T) (p_Poly_entries T) i_poly ⟨p, r, rfl, rfl⟩ ha hn hb
theorem x_zeroR (T : Tx K mg) (cg : Cg P w K mg base k N sc X) (ha : EvD X δ e1 (.poly p r)) (hn : 2 ≤ k := by decide) (hb : attributeBase e1 "is_zero" X.env (eval e1 X.env) = eval e1 X.env := by rfl) : EvD X δ (.Attribute e1 "is_zero" pos) (.bl (decide (r = []))) :=
  v_pr cg (sc_Poly T) (pp_Poly_is_zero T) (p_Poly_is_zero T) i_poly ⟨p, r, rfl, rfl⟩ ha hn hb
theorem x_eqR (T : Tx K mg) (cg : Cg P w K mg base k N sc X) (ha : EvD X δ e1 (.poly p r1)) (hb : EvD X δ e2 (.poly p r2)) (hn : 1 ≤ k := by decide) : EvD X δ (.Compare e1 [.Eq] [e2] pos) (.bl (decide (r1 = r2))) :=
  v_eqO cg (mm_Poly___eq__ T).at_ (mm_Poly___eq__ T).fn (nf_Poly T) (p_Poly_eq T) hn i_poly i_poly ha hb ⟨p, r1, r2, rfl, rfl⟩
variable [hp : PC p] {u v : Pol p}
theorem wfA (a : Pol p) : Wf p a.r := ⟨hp.pr, a.w.res, a.w.top⟩
theorem x_add (T : Tx K mg) (cg : Cg P w K mg base k N sc X) (ha : EvD X δ e1 (.poly p u.r)) (hb : EvD X δ e2 (.poly p v.r)) (l1 : u.len ≤ 4000) (l2 : v.len ≤ 4000) (hn : 8 ≤ k := by decide) : EvD X δ (.BinOp e1 .Add e2 pos) (.poly p (u + v).r) :=
  v_bo cg (sf_Poly T) (mm_Poly___add__ T) (p_Poly_add T) i_poly i_poly ha hb ⟨p, u.r, v.r, rfl, wfA u, wfA v, l1, l2, trivial, rfl⟩ (by decide +kernel) hn
theorem x_sub (T : Tx K mg) (cg : Cg P w K mg base k N sc X) (ha : EvD X δ e1 (.poly p u.r)) (hb : EvD X δ e2 (.poly p v.r)) (l1 : u.len ≤ 4000) (l2 : v.len ≤ 4000) (hn : 8 ≤ k := by decide) : EvD X δ (.BinOp e1 .Sub e2 pos) (.poly p (u - v).r) :=
  v_bo cg (sf_Poly T) (mm_Poly___sub__ T) (p_Poly_sub T) i_poly i_poly ha hb ⟨p, u.r, v.r, rfl, wfA u, wfA v, l1, l2, trivial, rfl⟩ (by decide +kernel) hn
theorem x_mul (T : Tx K mg) (cg : Cg P w K mg base k N sc X) (ha : EvD X δ e1 (.poly p u.r)) (hb : EvD X δ e2 (.poly p v.r)) (l1 : u.len ≤ 4000) (l2 : v.len ≤ 4000) (hn : 8 ≤ k := by decide) : EvD X δ (.BinOp e1 .Mult e2 pos) (.poly p (u * v).r) :=
  v_bo cg (sf_Poly T) (mm_Poly___mul__ T) (p_Poly_mul T) i_poly i_poly ha hb ⟨p, u.r, v.r, rfl, wfA u, wfA v, l1, l2, trivial, rfl⟩ (by decide +kernel) hn
theorem x_quo (T : Tx K mg) (cg : Cg P w K mg base k N sc X) (ha : EvD X δ e1 (.poly p u.r)) (hb : EvD X δ e2 (.poly p v.r)) (l1 : u.len ≤ 4000) (l2 : v.len ≤ 4000) (h0 : v ≠ 0) (hn : 8 ≤ k := by decide) : EvD X δ (.BinOp e1 .FloorDiv e2 pos) (.poly p (u.quo v).r) :=
  v_bo cg (sf_Poly T) (mm_Poly___floordiv__ T) (p_Poly_quo T) i_poly i_poly ha hb ⟨p, u.r, v.r, rfl, wfA u, wfA v, l1, l2, Pol.nn h0, rfl⟩ (by decide +kernel) hn
theorem x_rem (T : Tx K mg) (cg : Cg P w K mg base k N sc X) (ha : EvD X δ e1 (.poly p u.r)) (hb : EvD X δ e2 (.poly p v.r)) (l1 : u.len ≤ 4000) (l2 : v.len ≤ 4000) (h0 : v ≠ 0) (hn : 8 ≤ k := by decide) : EvD X δ (.BinOp e1 .Mod e2 pos) (.poly p (u.rem v).r) :=
  v_bo cg (sf_Poly T) (mm_Poly___mod__ T) (p_Poly_rem T) i_poly i_poly ha hb ⟨p, u.r, v.r, rfl, wfA u, wfA v, l1, l2, Pol.nn h0, rfl⟩ (by decide +kernel) hn
theorem x_neg (T : Tx K mg) (cg : Cg P w K mg base k N sc X) (ha : EvD X δ e1 (.poly p u.r)) (l1 : u.len ≤ 4000) (hn : 8 ≤ k := by decide) : EvD X δ (.UnaryOp .USub e1 pos) (.poly p (-u).r) :=
  v_negO cg (mm_Poly___neg__ T).at_ (mm_Poly___neg__ T).fn (p_Poly_neg T) hn i_poly ha ⟨p, u.r, rfl, wfA u, l1, rfl⟩
/-- Poly(prime, row) of a ring's polynomial -/
theorem x_new (T : Tx K mg) (cg : Cg P w K mg base k N sc X) {p1 : Pos} (ha : EvD X δ a (.int p)) (hb : EvD X δ b (.tup (rowD u.r))) (hl : u.len ≤ 1000) (hn : 6 ≤ k := by decide) (hg : Gl X "Poly" := by first | rfl | exact Cg.gl (by assumption) rfl)
    (he : starEach [a, b] X.env = (false, eval a X.env) :: starEach [b] X.env := by rfl) (he2 : starEach [b] X.env = (false, eval b X.env) :: starEach [] X.env := by rfl) (hpl : (backTo pos (starEach [b] X.env)).any (·.1) = false := by rfl) : EvD X δ (.Call (.Name "Poly" p1) [a, b] [] pos) (.poly p u.r) := v_Poly T cg (wfA u) hl ha hb hn hg he he2 hpl
theorem x_scl (T : Tx K mg) (cg : Cg P w K mg base k N sc X) {apos : Pos} {c : Int} {pl : Sem Bool} (ha : EvD X δ e1 (.poly p u.r)) (hb : EvD X δ e2 (.int c)) (h0 : 0 ≤ c) (h1 : c < p) (l1 : u.len ≤ 4000) (hn : 8 ≤ k := by decide)
    (hst : starEach [e2] X.env = (false, eval e2 X.env) :: starEach [] X.env := by rfl) (hpl : (backTo pos (starEach [] X.env)).any (·.1) = false := by rfl)
    (ht : eval (.Call (.Attribute e1 "scaled" apos) [e2] [] pos) X.env = (do
      let ov ← eval e1 X.env
      standAt apos.atName
      let (f, first) ← holding [ov] (getMethod ov "scaled" pl)
      callWith pos f first (backTo pos (starEach [e2] X.env)) (backToKw pos (keywordEach [] X.env))) := by rfl) : EvD X δ (.Call (.Attribute e1 "scaled" apos) [e2] [] pos) (.poly p (Pol.C p c * u).r) :=
  v_meth cg (sc_Poly T) (mm_Poly_scaled T) (p_Poly_scaled T) hn i_poly ha (a_d hb a_nil hst) (fun ds e => ⟨p, u.r, c, by rw [e], wfA u, h0, h1, by have : u.r.length ≤ 4000 := l1; omega, by rw [scl_eq]⟩) hst hpl ht
theorem wf_pol {r : List Int} (h : Wf p r) : ∃ a : Pol p, a.r = r := ⟨⟨r, h.res, h.top⟩, rfl⟩
end
/-! ### curves: properties -/
section
variable {P : Program} {w : World} {K : PySem.W.Frag} {mg : Str → Option Value} {base : Heap}
def S_gc (C : Int → List Int → Prop) (f : Int → List Int → Dt) : Sd := fun ds R => ∃ p r, ds = [.curve p r] ∧ C p r ∧ R (f p r)
theorem p_Curve_f (T : Tx K mg) : FnA P w K mg base 1 (gAd K (cC K) "f") (S_gc (fun _ _ => True) fun p r => .poly p r) :=
  fn_ok (N := ["self"]) (ps := ["self"]) (d_Curve_f T) (sc_of (by decide +kernel)) (fun _ _ _ _ _ _ us hl => match us, hl with | [_], _ => rfl) (fun _ _ ⟨_, _, e, _⟩ => e ▸ rfl) fun X cg hf ds R ⟨p, r, ed, _, hR⟩ => by
    subst ed
    exact r_retD (v_sl cg (sc_Curve T) (sl_Curve_own_f T) f_f (v_var 0)) hR
theorem p_Curve_prime (T : Tx K mg) : FnA P w K mg base 1 (gAd K (cC K) "prime") (S_gc (fun _ _ => True) fun p r => .int p) :=
  fn_ok (N := ["self"]) (ps := ["self"]) (d_Curve_prime T) (sc_of (by decide +kernel)) (fun _ _ _ _ _ _ us hl => match us, hl with | [_], _ => rfl) (fun _ _ ⟨_, _, e, _⟩ => e ▸ rfl) fun X cg hf ds R ⟨p, r, ed, _, hR⟩ => by
    subst ed
    exact r_retD (v_sl cg (sc_Curve T) (sl_Curve_own_prime T) f_cprime (v_var 0)) hR
theorem p_Curve_genus (T : Tx K mg) : FnA P w K mg base 1 (gAd K (cC K) "genus") (S_gc (fun _ _ => True) fun p f => .int (((f.length : Int) - 2) / 2)) :=
  fn_ok (N := ["self"]) (ps := ["self"]) (d_Curve_genus T) (sc_of (by decide +kernel)) (fun _ _ _ _ _ _ us hl => match us, hl with | [_], _ => rfl) (fun _ _ ⟨_, _, e, _⟩ => e ▸ rfl) fun X cg hf ds R ⟨p, r, ed, _, hR⟩ => by
    subst ed
    exact r_retD (v_sl cg (sc_Curve T) (sl_Curve_own_genus T) f_genus (v_var 0)) hR
theorem p_Curve_kind (T : Tx K mg) : FnA P w K mg base 1 (gAd K (cC K) "kind") (S_gc Two fun p f => .str "two") :=
  fn_ok (N := ["self"]) (ps := ["self"]) (d_Curve_kind T) (sc_of (by decide +kernel)) (fun _ _ _ _ _ _ us hl => match us, hl with | [_], _ => rfl) (fun _ _ ⟨_, _, e, _⟩ => e ▸ rfl) fun X cg hf ds R ⟨p, r, ed, ht, hR⟩ => by
    subst ed
    refine r_ret ((v_sl cg (sc_Curve T) (sl_Curve_own_kind T) (f_kind (p := p) (f := r)) (v_var 0)).mono fun d ⟨kd, e, hk⟩ => ?_)
    rw [e, hk.mpr ht]
    exact hR
theorem p_Curve_rims (T : Tx K mg) : FnA P w K mg base 1 (gAd K (cC K) "rims") (S_gc Two fun p f => rimsD p f) :=
  fn_ok (N := ["self"]) (ps := ["self"]) (d_Curve_rims T) (sc_of (by decide +kernel)) (fun _ _ _ _ _ _ us hl => match us, hl with | [_], _ => rfl) (fun _ _ ⟨_, _, e, _⟩ => e ▸ rfl) fun X cg hf ds R ⟨p, r, ed, ht, hR⟩ => by
    subst ed
    exact r_retD (v_sl cg (sc_Curve T) (sl_Curve_own_rims T) (f_rims ht) (v_var 0)) hR
theorem p_Curve_eq (T : Tx K mg) : FnA P w K mg base 2 (He.ma K (cC K) "__eq__") (fun ds R => ∃ p a b, ds = [.curve p a, .curve p b] ∧ R (.bl (decide (a = b)))) :=
  fn_ok (N := ["self", "other"]) (ps := ["self", "other"]) (d_Curve___eq__ T) (sc_of (by decide +kernel)) (fun _ _ _ _ _ _ us hl => match us, hl with | [_, _], _ => rfl) (fun _ _ ⟨_, _, _, e, _⟩ => e ▸ rfl) fun X cg hf ds R ⟨p, a, b, ed, hR⟩ => by
    subst ed
    have bf := T.bf
    exact r_retD (v_and (k := true) (v_io cg (sc_Curve T) (si_Curve T) (ki_Curve_Curve T) (g_Curve T) i_curve (v_var 1)) fun _ => v_one (x_eqR T cg (v_sl cg (sc_Curve T) (sl_Curve_own_f T) f_f (v_var 0)) (v_sl cg (sc_Curve T) (sl_Curve_own_f T) f_f (v_var 1)))) hR
theorem p_require_curve (T : Tx K mg) : FnA P w K mg base 1 (He.ga K "require_curve") (fun ds R => ∃ p f, ds = [.curve p f] ∧ R .non) :=
  fn_ok (N := ["value"]) (ps := ["value"]) (d_require_curve T) (sc_of (by decide +kernel)) (fun _ _ _ _ _ _ us hl => match us, hl with | [_], _ => rfl) (fun _ _ ⟨_, _, e, _⟩ => e ▸ rfl) fun X cg hf ds R ⟨p, f, ed, hR⟩ => by
    subst ed
    have bf := T.bf
    exact r_if (k := false) ((t_not (t_val (v_io cg (sc_Curve T) (si_Curve T) (ki_Curve_Curve T) (g_Curve T) i_curve (v_var 0)))).is rfl) (fun h => nomatch h) fun _ => r_nil (r_nil hR)
section
variable {X : Cx} {δ : List Sl} {a e1 e2 : Expr} {pos p1 : Pos} {k : Nat} {N : List Str} {sc : Scope} {p : Int} {f g : List Int}
theorem x_Curve (T : Tx K mg) (cg : Cg P w K mg base k N sc X) (wf : Wf p f) (ht : Two p f) (h2 : 2 ≤ f.length) (h9 : f.length ≤ 9) (hfr : freeP p f = true) (ha : EvD X δ a (.poly p f)) (hn : 16 ≤ k := by decide) (hg : Gl X "Curve" := by first | rfl | exact Cg.gl (by assumption) rfl)
    (he : starEach [a] X.env = (false, eval a X.env) :: starEach [] X.env := by rfl) (hpl : (backTo pos (starEach [] X.env)).any (·.1) = false := by rfl) : EvD X δ (.Call (.Name "Curve" p1) [a] [] pos) (.curve p f) :=
  v_new cg (mk_Curve T) (p_Curve_init T) hn (g_Curve T) (a_d ha a_nil he) (fun ds e => ⟨fun fs => ∃ l t, t.length ≤ 1000 ∧ fs = fC p f l t, ⟨p, f, e, wf, ht, h2, h9, hfr, fun l t htl => ⟨l, t, htl, rfl⟩⟩, fun fs ⟨l, t, htl, ef⟩ => ⟨⟨.poly p f, by rw [ef]; rfl⟩, _, rfl, by
    rw [ef]
    exact seal_curve h2 h9 htl ht⟩⟩) hg (by decide) he hpl
theorem x_cf (T : Tx K mg) (cg : Cg P w K mg base k N sc X) (ha : EvD X δ e1 (.curve p f)) (hn : 2 ≤ k := by decide) (hb : attributeBase e1 "f" X.env (eval e1 X.env) = eval e1 X.env := by rfl) : EvD X δ (.Attribute e1 "f" pos) (.poly p f) :=
  v_pr cg (sc_Curve T) (pp_Curve_f T) (p_Curve_f T) i_curve ⟨p, f, rfl, trivial, rfl⟩ ha hn hb
theorem x_cprime (T : Tx K mg) (cg : Cg P w K mg base k N sc X) (ha : EvD X δ e1 (.curve p f)) (hn : 2 ≤ k := by decide) (hb : attributeBase e1 "prime" X.env (eval e1 X.env) = eval e1 X.env := by rfl) : EvD X δ (.Attribute e1 "prime" pos) (.int p) :=
  v_pr cg (sc_Curve T) (pp_Curve_prime T) (p_Curve_prime T) i_curve ⟨p, f, rfl, trivial, rfl⟩ ha hn hb
theorem x_cgenus (T : Tx K mg) (cg : Cg P w K mg base k N sc X) (ha : EvD X δ e1 (.curve p f)) (hn : 2 ≤ k := by decide) (hb : attributeBase e1 "genus" X.env (eval e1 X.env) = eval e1 X.env := by rfl) : EvD X δ (.Attribute e1 "genus" pos) (.int (((f.length : Int) - 2) / 2)) :=
  v_pr cg (sc_Curve T) (pp_Curve_genus T) (p_Curve_genus T) i_curve ⟨p, f, rfl, trivial, rfl⟩ ha hn hb
theorem x_ckind (T : Tx K mg) (cg : Cg P w K mg base k N sc X) (ht : Two p f) (ha : EvD X δ e1 (.curve p f)) (hn : 2 ≤ k := by decide) (hb : attributeBase e1 "kind" X.env (eval e1 X.env) = eval e1 X.env := by rfl) : EvD X δ (.Attribute e1 "kind" pos) (.str "two") :=
  v_pr cg (sc_Curve T) (pp_Curve_kind T) (p_Curve_kind T) i_curve ⟨p, f, rfl, ht, rfl⟩ ha hn hb
theorem x_crims (T : Tx K mg) (cg : Cg P w K mg base k N sc X) (ht : Two p f) (ha : EvD X δ e1 (.curve p f)) (hn : 2 ≤ k := by decide) (hb : attributeBase e1 "rims" X.env (eval e1 X.env) = eval e1 X.env := by rfl) : EvD X δ (.Attribute e1 "rims" pos) (rimsD p f) :=
  v_pr cg (sc_Curve T) (pp_Curve_rims T) (p_Curve_rims T) i_curve ⟨p, f, rfl, ht, rfl⟩ ha hn hb
theorem x_eqC (T : Tx K mg) (cg : Cg P w K mg base k N sc X) (ha : EvD X δ e1 (.curve p f)) (hb : EvD X δ e2 (.curve p g)) (hn : 2 ≤ k := by decide) : EvD X δ (.Compare e1 [.Eq] [e2] pos) (.bl (decide (f = g))) :=
  v_eqO cg (mm_Curve___eq__ T).at_ (mm_Curve___eq__ T).fn (nf_Curve T) (p_Curve_eq T) hn i_curve i_curve ha hb ⟨p, f, g, rfl, rfl⟩
theorem y_neC (T : Tx K mg) (cg : Cg P w K mg base k N sc X) (ha : EvD X δ e1 (.curve p f)) (hb : EvD X δ e2 (.curve p g)) (hn : 3 ≤ k := by decide) : EvT X δ (.Compare e1 [.NotEq] [e2] pos) (!decide (f = g)) :=
  t_neO cg (sc_Curve T) (ne_Curve T) (mm_Curve___eq__ T).at_ (mm_Curve___eq__ T).fn (p_Curve_eq T) hn i_curve i_curve ha hb ⟨p, f, g, rfl, rfl⟩
end
end
end DL

namespace DL
section
variable {p : Int} [hp : PC p]
/-! ### least terms -/
def Pol.gcd (a b : Pol p) : Pol p := ⟨gcdP p a.r b.r, let ⟨g, h, _⟩ := gcdP_spec a b; h ▸ g.w⟩
theorem gcd_is {a b g : Pol p} (h : g.r = gcdP p a.r b.r) : g = a.gcd b := by
  cases g
  cases h
  rfl
theorem gcd_ne (a b : Pol p) (h : b ≠ 0) : a.gcd b ≠ 0 ∧ (a.gcd b).len ≤ b.len := by
  obtain ⟨g, h1, _, _, _, h2, _⟩ := gcdP_spec a b
  rw [← gcd_is h1]
  exact h2 h
theorem gcd_len (a b : Pol p) : (a.gcd b).len ≤ max a.len b.len := by
  obtain ⟨g, h1, _, _, _, h2, h3⟩ := gcdP_spec a b
  rw [← gcd_is h1]
  by_cases h : b = 0
  · rw [h3 h]; omega
  · have := (h2 h).2; omega
theorem quo_ne {c g : Pol p} (hc : c ≠ 0) (hg : g ≠ 0) (hl : g.len ≤ c.len) : c.quo g ≠ 0 := fun z => by
  have h1 := Pol.div_eq c g (Pol.nn hg)
  have h2 : (c.rem g).len < g.len := Pol.rem_len c g (Pol.nn hg)
  rw [z, Pol.zero_mul] at h1
  have : c = c.rem g := by grind
  rw [← this] at h2
  omega
theorem quo_len (a g : Pol p) (hg : g ≠ 0) : (a.quo g).len ≤ a.len := by
  have h := trim_len (divR p a.r g.r).2
  have h2 := (len_divR (p := p) (a := a.r) (b := g.r)).2
  have h3 := Pol.pos_len hg
  show (quoP p a.r g.r).length ≤ a.r.length
  unfold quoP
  unfold quoN at h2
  have : g.r.length = g.len := rfl
  omega
theorem one_r : (1 : Pol p).r = [1] := by
  show trimI [((1 : Nat) : Int) % p] = [1]
  rcases hp.pr with h | h | h <;> subst h <;> rfl
theorem one_ne : (1 : Pol p) ≠ 0 := (ch_init_one)
  where ch_init_one : (1 : Pol p) ≠ 0 := Pol.C_ne (c := 1) (by rw [one_mod]; decide)
theorem quo_one (a : Pol p) : a.quo 1 = a := (Pol.div_uniq (a := a) (b := 1) (q := a) (r := 0) one_ne (by grind) (by
  rw [(Pol.len0 (0 : Pol p)).mpr rfl]
  exact Pol.pos_len one_ne)).1
theorem gcd_one (a : Pol p) : a.gcd 1 = 1 := by
  refine (gcd_is ?_).symm
  show (1 : Pol p).r = gcdP p a.r (1 : Pol p).r
  rw [one_r]
  rfl
def ltN (a b c : Pol p) : Int := invI p ((c.quo ((a.gcd b).gcd c)).ld)
def ltP (a b c : Pol p) : Pol p × Pol p × Pol p := (Pol.C p (ltN a b c) * a.quo ((a.gcd b).gcd c), Pol.C p (ltN a b c) * b.quo ((a.gcd b).gcd c), Pol.C p (ltN a b c) * c.quo ((a.gcd b).gcd c))
theorem ld_pos {a : Pol p} (h : a ≠ 0) : 0 < a.ld ∧ a.ld < p := by
  have h1 := Pol.ld_rng a
  have h2 := Pol.ld_ne h
  omega
theorem lt_one (a b : Pol p) : ltP a b 1 = (a, b, 1) := by
  have e : ltN a b 1 = 1 := by
    unfold ltN
    rw [gcd_one, quo_one]
    show invI p ((1 : Pol p).r.getLastD 0) = 1
    rw [one_r]
    rcases hp.pr with h | h | h <;> subst h <;> rfl
  have h1 : ∀ x : Pol p, Pol.C p 1 * x = x := fun x => by
    rw [Pol.C1]
    grind
  unfold ltP
  rw [e, gcd_one, quo_one, quo_one, quo_one, h1, h1, h1]
theorem lt_len (a b c : Pol p) (hc : c ≠ 0) : (ltP a b c).1.len ≤ a.len ∧ (ltP a b c).2.1.len ≤ b.len ∧ (ltP a b c).2.2.len ≤ c.len ∧ (ltP a b c).2.2 ≠ 0 := by
  obtain ⟨g0, gl⟩ := gcd_ne (a.gcd b) c hc
  have q0 := quo_ne hc g0 gl
  have l := ld_pos q0
  have n := (inv_mod l.1 l.2).2
  have n' : ltN a b c % p ≠ 0 := n
  refine ⟨?_, ?_, ?_, Pol.mul_ne (Pol.C_ne n') q0⟩
  · exact Nat.le_trans (Nat.le_of_eq (Pol.scl_len n' _)) (quo_len a _ g0)
  · exact Nat.le_trans (Nat.le_of_eq (Pol.scl_len n' _)) (quo_len b _ g0)
  · exact Nat.le_trans (Nat.le_of_eq (Pol.scl_len n' _)) (quo_len c _ g0)
end
end DL

namespace DL
open PySem PySem.Spec PyProof.Rows L2
section
variable {X : Cx} {a b c : Expr} {x y z : Str} {px py pz pt pt2 : Pos} {kt k2 : Nat} {P : Program} {w : World} {K : PySem.W.Frag} {mg : Str → Option Value} {base : Heap} {k : Nat} {N : List Str} {sc : Scope}
variable {δ : List Sl} {D : DEnds} {rest : List Stmt} {s1 s2 s3 : Sl} {pos : Pos}
theorem r_pr3 (n m q : Nat) (cg : Cg P w K mg base k N sc X) (h : EvS X δ [a, b, c] [s1, s2, s3]) (kk : RunS X (((δ.set n s1).set m s2).set q s3) rest D) (hn : N[n]? = some x := by rfl) (hm : N[m]? = some y := by rfl) (hq : N[q]? = some z := by rfl) (hx : sc.names.lookup x = some .local := by rfl) (hy : sc.names.lookup y = some .local := by rfl) (hz : sc.names.lookup z = some .local := by rfl)
    (hnm : n ≠ m := by decide) (hnq : n ≠ q := by decide) (hmq : m ≠ q := by decide)
    (hl : n < δ.length ∧ m < δ.length ∧ q < δ.length := by exact ⟨of_decide_eq_true rfl, of_decide_eq_true rfl, of_decide_eq_true rfl⟩) (hw : swappedStores [.Tuple [.Name x px, .Name y py, .Name z pz] kt pt] (.Tuple [a, b, c] k2 pt2) (envS sc) = pure (some [x, y, z]) := by rfl)
    (hs : swapsWithSole [.Tuple [.Name x px, .Name y py, .Name z pz] kt pt] (.Tuple [a, b, c] k2 pt2) pos.line X.env = pure false := by rfl) : RunS X δ (.Assign [.Tuple [.Name x px, .Name y py, .Name z pz] kt pt] (.Tuple [a, b, c] k2 pt2) pos :: rest) D :=
  r_par3 cg h (cg.na hn) (cg.na hm) (cg.na hq) (cg.lk hx) (cg.lk hy) (cg.lk hz) hnm hnq hmq kk hl (cg.sw hw) hs
end
section
variable {P : Program} {w : World} {K : PySem.W.Frag} {mg : Str → Option Value} {base : Heap}
theorem p_shared_part (T : Tx K mg) : FnA P w K mg base 9 (He.ga K "shared_part") (fun ds R => ∃ p a b, ds = [.poly p a, .poly p b] ∧ Wf p a ∧ Wf p b ∧ a.length ≤ 4000 ∧ b.length ≤ 4000 ∧ R (.poly p (gcdP p a b))) :=
  fn_ok (N := ["one", "other", "here", "there"]) (ps := ["one", "other"]) (d_shared_part T) (sc_of (by decide +kernel)) (fun _ _ _ _ _ _ us hl => match us, hl with | [_, _], _ => rfl) (fun _ _ ⟨_, _, _, e, _⟩ => e ▸ rfl) fun X cg hf ds R ⟨p, a, b, ed, wa, wb, la, lb, hR⟩ => by
    subst ed
    have bf := T.bf
    refine r_par2 2 3 cg (s_im (v_var 0) (s_im (v_var 1) s_nil)) ?_
    refine r_while cg (fun m δ' => ∃ a' b', δ' = [.im (.poly p a), .im (.poly p b), .im (.poly p a'), .im (.poly p b')] ∧ Wf p a' ∧ Wf p b' ∧ a'.length ≤ 4000 ∧ b'.length ≤ 4000 ∧ b'.length ≤ m ∧ gcdF p m a' b' = gcdP p a b) b.length ⟨a, b, rfl, wa, wb, la, lb, Nat.le_refl _, rfl⟩ fun m δ' ⟨a', b', e, wa', wb', la', lb', hm, hg⟩ => ?_
    subst e
    refine ⟨_, t_ge (x_degR T cg (v_var 3)) v_int, fun h => ?_, fun h => ?_⟩
    · have hb : b' ≠ [] := fun z => by
        rw [z] at h
        exact absurd (of_decide_eq_true h) (by decide)
      have hl := len_remP (p := p) (a := a') hb
      match m, hm, hg with
      | 0, hm, hg => exact absurd (List.eq_nil_of_length_eq_zero (by omega)) hb
      | m + 1, hm, hg =>
        refine r_par2 2 3 cg (s_im (v_var 3) (s_im (d := .poly p (remP p a' b')) (v_bo cg (sf_Poly T) (mm_Poly___mod__ T) (p_Poly_rem T) i_poly i_poly (v_var 2) (v_var 3) ⟨p, a', b', rfl, wa', wb', la', lb', hb, rfl⟩) s_nil)) (r_nil ⟨m, Nat.lt_succ_self _, b', remP p a' b', rfl, wb', wf_remP wa', lb', by omega, by omega, ?_⟩)
        rw [← hg]
        show _ = if b' = [] then a' else gcdF p m b' (remP p a' b')
        rw [if_neg hb]
    · have hb : b' = [] := by
        have := of_decide_eq_false h
        exact List.eq_nil_of_length_eq_zero (by omega)
      have e : gcdP p a b = a' := by
        rw [← hg]
        cases m with
        | zero => rfl
        | succ m =>
          show (if b' = [] then a' else _) = _
          rw [if_pos hb]
      rw [e] at hR
      exact r_retD (v_var 2) hR
section
variable {X : Cx} {δ : List Sl} {e1 e2 : Expr} {pos p1 : Pos} {k : Nat} {N : List Str} {sc : Scope} {p : Int} [hp : PC p] {u v : Pol p}
theorem x_gcd (T : Tx K mg) (cg : Cg P w K mg base k N sc X) (ha : EvD X δ e1 (.poly p u.r)) (hb : EvD X δ e2 (.poly p v.r)) (l1 : u.len ≤ 4000) (l2 : v.len ≤ 4000) (hn : 9 ≤ k := by decide) (hg : Gl X "shared_part" := by first | rfl | exact Cg.gl (by assumption) rfl)
    (he : starEach [e1, e2] X.env = (false, eval e1 X.env) :: starEach [e2] X.env := by rfl) (he2 : starEach [e2] X.env = (false, eval e2 X.env) :: starEach [] X.env := by rfl) (hpl : (backTo pos (starEach [e2] X.env)).any (·.1) = false := by rfl) : EvD X δ (.Call (.Name "shared_part" p1) [e1, e2] [] pos) (.poly p (u.gcd v).r) :=
  v_fn cg (p_shared_part T) (d_shared_part T) (g_shared_part T) (a_d ha (a_d hb a_nil he2) he) ⟨p, u.r, v.r, rfl, wfA u, wfA v, l1, l2, rfl⟩ hn hg (by decide) he hpl
theorem x_invOf (T : Tx K mg) (cg : Cg P w K mg base k N sc X) {n : Int} (ha : EvD X δ e1 (.int p)) (hb : EvD X δ e2 (.int n)) (h0 : 0 < n ∧ n < p) (hn : 1 ≤ k := by decide) (hg : Gl X "inverse_of" := by first | rfl | exact Cg.gl (by assumption) rfl)
    (he : starEach [e1, e2] X.env = (false, eval e1 X.env) :: starEach [e2] X.env := by rfl) (he2 : starEach [e2] X.env = (false, eval e2 X.env) :: starEach [] X.env := by rfl) (hpl : (backTo pos (starEach [e2] X.env)).any (·.1) = false := by rfl) : EvD X δ (.Call (.Name "inverse_of" p1) [e1, e2] [] pos) (.int (invI p n)) :=
  v_fn cg (p_inverse_of T) (d_inverse_of T) (g_inverse_of T) (a_d ha (a_d hb a_nil he2) he) ⟨p, n, rfl, hp.pr, h0.1, h0.2, rfl⟩ hn hg (by decide) he hpl
end
abbrev PD (p : Int) (a : Pol p) : Dt := .poly p a.r
def S_lt : Sd := fun ds R => ∃ (p : Int) (_ : PC p) (a b c : Pol p), ds = [.poly p a.r, .poly p b.r, .poly p c.r] ∧ a.len ≤ 4000 ∧ b.len ≤ 4000 ∧ c.len ≤ 4000 ∧ c ≠ 0 ∧ R (.tup [.poly p (ltP a b c).1.r, .poly p (ltP a b c).2.1.r, .poly p (ltP a b c).2.2.r])
theorem p_least_terms (T : Tx K mg) : FnA P w K mg base 10 (He.ga K "least_terms") S_lt :=
  fn_ok (N := ["a", "b", "c", "shared", "less"]) (ps := ["a", "b", "c"]) (d_least_terms T) (sc_of (by decide +kernel)) (fun _ _ _ _ _ _ us hl => match us, hl with | [_, _, _], _ => rfl) (fun _ _ ⟨_, _, _, _, _, e, _⟩ => e ▸ rfl) fun X cg hf ds R ⟨p, hp, a, b, c, ed, la, lb, lc, c0, hR⟩ => by
    subst ed
    have bf := T.bf
    have gl1 := gcd_len a b
    obtain ⟨g0, gl⟩ := gcd_ne (a.gcd b) c c0
    have q0 := quo_ne c0 g0 gl
    have ll := ld_pos q0
    have nn := inv_ok hp.pr ll.1 ll.2
    have qa := quo_len a _ g0
    have qb := quo_len b _ g0
    have qc := quo_len c _ g0
    refine r_setD (d := .poly p ((a.gcd b).gcd c).r) 3 cg (x_gcd T cg (x_gcd T cg (v_var 0) (v_var 1) la lb) (v_var 2) (by omega) lc) ?_
    refine r_pr3 0 1 2 cg (s_im (x_quo T cg (v_var 0) (v_var 3) la (by omega) g0) (s_im (x_quo T cg (v_var 1) (v_var 3) lb (by omega) g0) (s_im (x_quo T cg (v_var 2) (v_var 3) lc (by omega) g0) s_nil))) ?_
    refine r_setD (d := .int (ltN a b c)) 4 cg (x_invOf T cg (x_primeR T cg (v_var 2)) (x_ldR T cg (v_var 2)) ll) ?_
    exact r_retD (v_tupD (a_d (x_scl T cg (v_var 0) (v_var 4) (Int.le_of_lt nn.2.2.1) nn.2.2.2 (by omega)) (a_d (x_scl T cg (v_var 1) (v_var 4) (Int.le_of_lt nn.2.2.1) nn.2.2.2 (by omega)) (a_d (x_scl T cg (v_var 2) (v_var 4) (Int.le_of_lt nn.2.2.1) nn.2.2.2 (by omega)) a_nil)))) hR
theorem p_lowered_pair (T : Tx K mg) : FnA P w K mg base 10 (He.ga K "lowered_pair") (fun ds R => ∃ (p : Int) (_ : PC p) (a c : Pol p), ds = [.poly p a.r, .poly p c.r] ∧ a.len ≤ 4000 ∧ c.len ≤ 4000 ∧ c ≠ 0 ∧ ∀ x y, R (.tup [.poly p x, .poly p y])) :=
  fn_ok (N := ["top", "bottom", "shared", "less"]) (ps := ["top", "bottom"]) (d_lowered_pair T) (sc_of (by decide +kernel)) (fun _ _ _ _ _ _ us hl => match us, hl with | [_, _], _ => rfl) (fun _ _ ⟨_, _, _, _, e, _⟩ => e ▸ rfl) fun X cg hf ds R ⟨p, hp, a, c, ed, la, lc, c0, hR⟩ => by
    subst ed
    have bf := T.bf
    obtain ⟨g0, gl⟩ := gcd_ne a c c0
    have q0 := quo_ne c0 g0 gl
    have ll := ld_pos q0
    have nn := inv_ok hp.pr ll.1 ll.2
    have qa := quo_len a _ g0
    have qc := quo_len c _ g0
    refine r_setD (d := .poly p (a.gcd c).r) 2 cg (x_gcd T cg (v_var 0) (v_var 1) la lc) ?_
    refine r_par2 0 1 cg (s_im (x_quo T cg (v_var 0) (v_var 2) la (by omega) g0) (s_im (x_quo T cg (v_var 1) (v_var 2) lc (by omega) g0) s_nil)) ?_
    refine r_setD 3 cg (x_invOf T cg (x_primeR T cg (v_var 1)) (x_ldR T cg (v_var 1)) ll) ?_
    exact r_retD (v_tupD (a_d (x_scl T cg (v_var 0) (v_var 3) (Int.le_of_lt nn.2.2.1) nn.2.2.2 (by omega)) (a_d (x_scl T cg (v_var 1) (v_var 3) (Int.le_of_lt nn.2.2.1) nn.2.2.2 (by omega)) a_nil))) (hR _ _)
end
end DL

namespace DL
open PySem PySem.Spec PyProof.Rows L2
section
variable {P : Program} {w : World} {K : PySem.W.Frag} {mg : Str → Option Value} {base : Heap}
section
variable {X : Cx} {δ : List Sl} {e1 e2 : Expr} {pos p1 : Pos} {k : Nat} {N : List Str} {sc : Scope} {p : Int} {r : List Int}
theorem x_fmtP (T : Tx K mg) (cg : Cg P w K mg base k N sc X) (ha : EvD X δ e1 (.poly p r)) (hl : r.length ≤ 4000) (hn : 2 ≤ k := by decide) : EvE X δ (.FormattedValue e1 (-1) none pos) (Tx1 fun s => s.length ≤ 64016) :=
  v_fmtO cg (si_Poly T) (fo_Poly T) (mm_Poly___str__ T) (p_Poly_str T) hn i_poly ha ⟨p, r, rfl, by omega, fun s hs => ⟨s, rfl, by omega⟩⟩
end
theorem p_told_function (T : Tx K mg) : FnA P w K mg base 3 (He.ga K "told_function") (fun ds R => ∃ p a b c, ds = [.poly p a, .poly p b, .poly p c] ∧ a.length ≤ 4000 ∧ b.length ≤ 4000 ∧ c.length ≤ 4000 ∧ ∀ s, R (.str s)) :=
  fn_ok (N := ["a", "b", "c", "above"]) (ps := ["a", "b", "c"]) (d_told_function T) (sc_of (by decide +kernel)) (fun _ _ _ _ _ _ us hl => match us, hl with | [_, _, _], _ => rfl) (fun _ _ ⟨_, _, _, _, e, _⟩ => e ▸ rfl) fun X cg hf ds R ⟨p, a, b, c, ed, la, lb, lc, hR⟩ => by
    subst ed
    have bf := T.bf
    have l1 : ("+(" : Str).length ≤ 10 := by decide +kernel
    have l2 : (")y" : Str).length ≤ 10 := by decide +kernel
    have l3 : ("(" : Str).length ≤ 10 := by decide +kernel
    have l4 : (")/(" : Str).length ≤ 10 := by decide +kernel
    have l5 : (")" : Str).length ≤ 10 := by decide +kernel
    refine r_set 3 (R := Tx1 fun s => s.length ≤ 200000) cg (v_ifExp (t_lt (x_degR T cg (v_var 1)) v_int) (fun _ => ?_) fun _ => ?_) fun d ⟨s, hd, hs⟩ => ?_
    · exact v_joined1 ((x_fmtP T cg (v_var 0) la).mono fun d ⟨s, e, h⟩ => ⟨s, e, by omega⟩)
    · refine (v_joined (L := 64016 + (10 + (64016 + (10 + 0)))) (j_cons (x_fmtP T cg (v_var 0) la) (fun s h => h) (j_cons v_strT (fun s e => by rw [e]; exact l1) (j_cons (x_fmtP T cg (v_var 1) lb) (fun s h => h) (j_cons v_strT (fun s e => by rw [e]; exact l2) j_nil)))) (by decide)).mono fun d ⟨s, e, h⟩ => ⟨s, e, by omega⟩
    · subst hd
      refine r_ret (v_ifExp (t_eqI (x_degR T cg (v_var 2)) v_int) (fun _ => ?_) fun _ => ?_)
      · refine (v_var 3).mono fun d ed => ?_
        cases ed
        exact hR _
      · refine (v_joined (L := 10 + (200000 + (10 + (64016 + (10 + 0))))) (j_cons v_strT (fun s e => by rw [e]; exact l3) (j_cons (v_fmtS (A := fun z => z.length ≤ 200000) (fun s h => by omega) ((v_var 3).mono fun d ed => ⟨s, ed, hs⟩)) (fun s h => h) (j_cons v_strT (fun s e => by rw [e]; exact l4) (j_cons (x_fmtP T cg (v_var 2) lc) (fun s h => h) (j_cons v_strT (fun s e => by rw [e]; exact l5) j_nil))))) (by decide)).mono fun d ⟨s, e, h⟩ => ?_
        rw [e]
        exact hR _
def fF (p : Int) (f a b c : List Int) (d4 d5 d6 d7 d8 : Dt) : List (Option Dt) := [some (.poly p a), some (.poly p b), some (.poly p c), some (.curve p f), some d4, some d5, some d6, some d7, some d8]
theorem seal_fn {p : Int} {f a b c : List Int} {d4 d5 d6 d7 d8 : Dt} : Seal K (cF K) (fF p f a b c d4 d5 d6 d7 d8) (.fn p f a b c) := fun aa dx vals H q1 q2 q3 =>
  rep_fn.mpr (seal_obj (.cons (fun _ _ h => rep_poly.mp h) (.cons (fun _ _ h => rep_poly.mp h) (.cons (fun _ _ h => rep_poly.mp h) (.cons (fun _ _ h => rep_curve.mp h) (.cons (fun _ _ _ => trivial) (.cons (fun _ _ _ => trivial) (.cons (fun _ _ _ => trivial) (.cons (fun _ _ _ => trivial) (.cons (fun _ _ _ => trivial) .nil))))))))) q1 q2 q3)
def I_fn : Si := fun ds RF => ∃ (p : Int) (_ : PC p) (f a b c : Pol p), ds = [.curve p f.r, .poly p a.r, .poly p b.r, .poly p c.r] ∧ f.len ≤ 9 ∧ a.len ≤ 1000 ∧ b.len ≤ 1000 ∧ c.len ≤ 1000 ∧ c ≠ 0 ∧ ∀ d4 d5 d6 d7 d8, RF (fF p f.r (ltP a b c).1.r (ltP a b c).2.1.r (ltP a b c).2.2.r d4 d5 d6 d7 d8)
theorem p_Function_init (T : Tx K mg) : FnR P w K mg base CX0 11 (He.ma K (cF K) "__init__") (spI K (cF K) I_fn) :=
  fnI_ok (N := ["self", "curve", "a", "b", "c", "poly"]) (ps := ["self", "curve", "a", "b", "c"]) (d_Function___init__ T) (sc_of (by decide +kernel)) (fun _ _ _ _ _ _ us hl => match us, hl with | [_, _, _, _, _], _ => rfl) (fun _ _ ⟨_, _, _, _, _, _, e, _⟩ => e ▸ rfl) fun X cg hf ds RF ⟨p, hp, f, a, b, c, e, lf, la, lb, lc, c0, hR⟩ ad dx => by
    subst e
    have bf := T.bf
    have fr := cg.fr
    obtain ⟨z1, z2, z3, z4⟩ := lt_len a b c c0
    have c1 := Pol.pos_len c0
    generalize hA : (ltP a b c).1 = A at *
    generalize hB : (ltP a b c).2.1 = B at *
    generalize hC : (ltP a b c).2.2 = C at *
    have m1 := Pol.mul_le A A
    have m2 := Pol.mul_le f B
    have m3 := Pol.mul_le (f * B) B
    have m4 := Pol.mul_le C C
    have m5 := Pol.sub_len (A * A) (f * B * B) (n := 4000) (by omega) (by omega)
    refine r_expr (R := fun _ => True) (v_fn cg (p_require_curve T) (d_require_curve T) (g_require_curve T) (a_d (v_var 1) a_nil) ⟨p, f.r, rfl, trivial⟩) ?_
    refine r_forF (xs := [a, b, c]) (g := fun q => .poly p q.r) cg (it_tup (v_tupD (a_d (v_var 2) (a_d (v_var 3) (a_d (v_var 4) a_nil))) (by simp))) (fun (_ : Unit) => [.ob (cF K, ad, dx) [], .im (.curve p f.r), .im (.poly p a.r), .im (.poly p b.r), .im (.poly p c.r), .no]) (fun u _ => u) () (.eq (.eq (.eq (.eq (.eq (.no .nil)))))) (fun n q hq => ⟨tg_name 5 cg, r_expr (R := fun _ => True) (v_fn cg (p_require_poly T) (d_require_poly T) (g_require_poly T) (a_d (v_var 5) a_nil) ⟨p, q.r, rfl, trivial⟩) (r_nil (.eq (.eq (.eq (.eq (.eq (.no .nil)))))))⟩) ?_
    refine r_if (k := false) ((t_w (w_or (t_not (t_val (v_all cg (r := [a, b, c].map fun _ => true) ((v_lc cg (lc_map (xs := [a, b, c]) (gd := fun q => .poly p q.r) (f := fun _ => .bl (decide (p = p))) [("poly", 5)] cg (by simp) (it_tup (v_tupD (a_d (v_var 2) (a_d (v_var 3) (a_d (v_var 4) a_nil))) (by simp))) fun XB cb q hq =>
        ⟨tg_name 5 cb, v_eqI (x_primeR T cb (v_var 5)) (x_cprime T cb (v_var 1))⟩)).is (by simp))))) fun _ => w_or1 (t_lt (x_degR T cg (v_var 4)) v_int))).is ?_) (fun h => nomatch h) fun _ => r_nil ?_
    · rw [decide_eq_false (by have : c.r.length = c.len := rfl; omega : ¬ (c.r.length : Int) - 1 < 0)]
      rfl
    refine r_fld 0 (C := (cF K, ad, dx)) (by rw [fr]; exact sc_Function T) (by rw [fr]; exact sl_Function_own_curve T) (v_var 1) rfl fun d hd => ?_
    cases hd
    refine r_fld3 0 (C := (cF K, ad, dx)) (d1 := .poly p A.r) (d2 := .poly p B.r) (d3 := .poly p C.r) cg (by rw [fr]; exact sc_Function T) (by rw [fr]; exact sl_Function_own_a T) (by rw [fr]; exact sl_Function_own_b T) (by rw [fr]; exact sl_Function_own_c T) (v_fn cg (p_least_terms T) (d_least_terms T) (g_least_terms T) (a_d (v_var 2) (a_d (v_var 3) (a_d (v_var 4) a_nil))) ⟨p, hp, a, b, c, rfl, by omega, by omega, by omega, c0, by rw [hA, hB, hC]⟩) rfl (by simp) ?_
    have hs : RunS X (List.set [Sl.ob (cF K, ad, dx) [], .im (.curve p f.r), .im (.poly p a.r), .im (.poly p b.r), .im (.poly p c.r), .no] 0 (.ob (cF K, ad, dx) [some (.poly p A.r), some (.poly p B.r), some (.poly p C.r), some (.curve p f.r)])) ((BDm 75 1).drop 5) { nx := fun δ => ∃ fs δr, δ = .ob (cF K, ad, dx) fs :: δr ∧ RF fs } := ?_
    · exact hs
    have sA : ∀ {fs : List (Option Dt)} {δ : List Sl} {px pos : Pos}, δ[0]? = some (Sl.ob (cF K, ad, dx) fs) → fs[0]? = some (some (.poly p A.r)) → EvD X δ (.Attribute (.Name "self" px) "own_a" pos) (.poly p A.r) := fun h1 h2 => v_self (C := (cF K, ad, dx)) (j := 0) 0 (by rw [fr]; exact sc_Function T) (by rw [fr]; exact sl_Function_own_a T) h1 h2
    have sB : ∀ {fs : List (Option Dt)} {δ : List Sl} {px pos : Pos}, δ[0]? = some (Sl.ob (cF K, ad, dx) fs) → fs[1]? = some (some (.poly p B.r)) → EvD X δ (.Attribute (.Name "self" px) "own_b" pos) (.poly p B.r) := fun h1 h2 => v_self (C := (cF K, ad, dx)) (j := 1) 0 (by rw [fr]; exact sc_Function T) (by rw [fr]; exact sl_Function_own_b T) h1 h2
    have sC : ∀ {fs : List (Option Dt)} {δ : List Sl} {px pos : Pos}, δ[0]? = some (Sl.ob (cF K, ad, dx) fs) → fs[2]? = some (some (.poly p C.r)) → EvD X δ (.Attribute (.Name "self" px) "own_c" pos) (.poly p C.r) := fun h1 h2 => v_self (C := (cF K, ad, dx)) (j := 2) 0 (by rw [fr]; exact sc_Function T) (by rw [fr]; exact sl_Function_own_c T) h1 h2
    refine r_fld 0 (C := (cF K, ad, dx)) (R := is_ (.poly p (A * A - f * B * B).r)) (by rw [fr]; exact sc_Function T) (by rw [fr]; exact sl_Function_own_size T) (x_sub T cg (x_mul T cg (sA rfl rfl) (sA rfl rfl) (by omega) (by omega)) (x_mul T cg (x_mul T cg (x_cf T cg (v_var 1)) (sB rfl rfl) (by omega) (by omega)) (sB rfl rfl) (by omega) (by omega)) (by omega) (by omega)) rfl fun d hd => ?_
    cases hd
    have sZ : ∀ {fs : List (Option Dt)} {δ : List Sl} {px pos : Pos}, δ[0]? = some (Sl.ob (cF K, ad, dx) fs) → fs[7]? = some (some (.poly p (A * A - f * B * B).r)) → EvD X δ (.Attribute (.Name "self" px) "own_size" pos) (.poly p (A * A - f * B * B).r) := fun h1 h2 => v_self (C := (cF K, ad, dx)) (j := 7) 0 (by rw [fr]; exact sc_Function T) (by rw [fr]; exact sl_Function_own_size T) h1 h2
    refine r_fld 0 (C := (cF K, ad, dx)) (R := fun d => ∃ x y, d = .tup [.poly p x, .poly p y]) (by rw [fr]; exact sc_Function T) (by rw [fr]; exact sl_Function_own_norm T) (v_fn cg (p_lowered_pair T) (d_lowered_pair T) (g_lowered_pair T) (a_d (sZ rfl rfl) (a_d (x_mul T cg (sC rfl rfl) (sC rfl rfl) (by omega) (by omega)) a_nil)) ⟨p, hp, A * A - f * B * B, C * C, rfl, m5, by omega, Pol.mul_ne z4 z4, fun x y => ⟨x, y, rfl⟩⟩) rfl fun d ⟨x, y, hd⟩ => ?_
    subst hd
    refine r_fld 0 (C := (cF K, ad, dx)) (R := is_ (.bl (decide ((A.r.length : Int) - 1 < 0) && decide ((B.r.length : Int) - 1 < 0)))) (by rw [fr]; exact sc_Function T) (by rw [fr]; exact sl_Function_own_is_zero T) (v_and (v_lt (x_degR T cg (sA rfl rfl)) v_int) fun _ => v_one (v_lt (x_degR T cg (sB rfl rfl)) v_int)) rfl fun d hd => ?_
    cases hd
    refine r_fld 0 (C := (cF K, ad, dx)) (R := is_ (.bl (decide ((A.r.length : Int) - 1 < 1) && (decide ((B.r.length : Int) - 1 < 0) && decide ((C.r.length : Int) - 1 = 0))))) (by rw [fr]; exact sc_Function T) (by rw [fr]; exact sl_Function_own_is_residue T) (v_and (v_lt (x_degR T cg (sA rfl rfl)) v_int) fun _ => v_and (v_lt (x_degR T cg (sB rfl rfl)) v_int) fun _ => v_one (v_eqI (x_degR T cg (sC rfl rfl)) v_int)) rfl fun d hd => ?_
    cases hd
    refine r_fld 0 (C := (cF K, ad, dx)) (R := fun d => ∃ s, d = .str s) (by rw [fr]; exact sc_Function T) (by rw [fr]; exact sl_Function_own_text T) (v_fn cg (p_told_function T) (d_told_function T) (g_told_function T) (a_d (sA rfl rfl) (a_d (sB rfl rfl) (a_d (sC rfl rfl) a_nil))) ⟨p, A.r, B.r, C.r, rfl, show A.len ≤ 4000 by omega, show B.len ≤ 4000 by omega, show C.len ≤ 4000 by omega, fun s => ⟨s, rfl⟩⟩) rfl fun d ⟨t, hd⟩ => ?_
    subst hd
    refine r_nil ⟨_, _, rfl, ?_⟩
    simp only [putF, List.length_cons, List.length_nil, List.nil_append, List.cons_append, Nat.zero_add, Nat.reduceAdd, Nat.reduceSub, List.replicate_succ, List.replicate_zero, List.set_cons_zero, List.set_cons_succ, List.length_set, List.append_nil]
    exact hR _ _ _ _ _
end
end DL

namespace DL
open PySem PySem.Spec PyProof.Rows L2
section
variable {P : Program} {w : World} {K : PySem.W.Frag} {mg : Str → Option Value} {base : Heap}
def S_gf (f : Int → List Int → List Int → List Int → List Int → Dt) : Sd := fun ds R => ∃ p r a b c, ds = [.fn p r a b c] ∧ R (f p r a b c)
theorem p_Function_curve (T : Tx K mg) : FnA P w K mg base 1 (gAd K (cF K) "curve") (S_gf fun p f _ _ _ => .curve p f) :=
  fn_ok (N := ["self"]) (ps := ["self"]) (d_Function_curve T) (sc_of (by decide +kernel)) (fun _ _ _ _ _ _ us hl => match us, hl with | [_], _ => rfl) (fun _ _ ⟨_, _, _, _, _, e, _⟩ => e ▸ rfl) fun X cg hf ds R ⟨p, r, a, b, c, ed, hR⟩ => by
    subst ed
    exact r_retD (v_sl cg (sc_Function T) (sl_Function_own_curve T) f_curve (v_var 0)) hR
theorem p_Function_a (T : Tx K mg) : FnA P w K mg base 1 (gAd K (cF K) "a") (S_gf fun p _ a _ _ => .poly p a) :=
  fn_ok (N := ["self"]) (ps := ["self"]) (d_Function_a T) (sc_of (by decide +kernel)) (fun _ _ _ _ _ _ us hl => match us, hl with | [_], _ => rfl) (fun _ _ ⟨_, _, _, _, _, e, _⟩ => e ▸ rfl) fun X cg hf ds R ⟨p, r, a, b, c, ed, hR⟩ => by
    subst ed
    exact r_retD (v_sl cg (sc_Function T) (sl_Function_own_a T) f_a (v_var 0)) hR
theorem p_Function_b (T : Tx K mg) : FnA P w K mg base 1 (gAd K (cF K) "b") (S_gf fun p _ _ b _ => .poly p b) :=
  fn_ok (N := ["self"]) (ps := ["self"]) (d_Function_b T) (sc_of (by decide +kernel)) (fun _ _ _ _ _ _ us hl => match us, hl with | [_], _ => rfl) (fun _ _ ⟨_, _, _, _, _, e, _⟩ => e ▸ rfl) fun X cg hf ds R ⟨p, r, a, b, c, ed, hR⟩ => by
    subst ed
    exact r_retD (v_sl cg (sc_Function T) (sl_Function_own_b T) f_b (v_var 0)) hR
theorem p_Function_c (T : Tx K mg) : FnA P w K mg base 1 (gAd K (cF K) "c") (S_gf fun p _ _ _ c => .poly p c) :=
  fn_ok (N := ["self"]) (ps := ["self"]) (d_Function_c T) (sc_of (by decide +kernel)) (fun _ _ _ _ _ _ us hl => match us, hl with | [_], _ => rfl) (fun _ _ ⟨_, _, _, _, _, e, _⟩ => e ▸ rfl) fun X cg hf ds R ⟨p, r, a, b, c, ed, hR⟩ => by
    subst ed
    exact r_retD (v_sl cg (sc_Function T) (sl_Function_own_c T) f_c (v_var 0)) hR
section
variable {X : Cx} {δ : List Sl} {e1 e2 e3 e4 : Expr} {pos p1 : Pos} {k : Nat} {N : List Str} {sc : Scope} {p : Int} {f a b c a' b' c' : List Int}
theorem x_fcurve (T : Tx K mg) (cg : Cg P w K mg base k N sc X) (ha : EvD X δ e1 (.fn p f a b c)) (hn : 2 ≤ k := by decide) (hb : attributeBase e1 "curve" X.env (eval e1 X.env) = eval e1 X.env := by rfl) : EvD X δ (.Attribute e1 "curve" pos) (.curve p f) :=
  v_pr cg (sc_Function T) (pp_Function_curve T) (p_Function_curve T) i_fn ⟨p, f, a, b, c, rfl, rfl⟩ ha hn hb
theorem x_fa (T : Tx K mg) (cg : Cg P w K mg base k N sc X) (ha : EvD X δ e1 (.fn p f a b c)) (hn : 2 ≤ k := by decide) (hb : attributeBase e1 "a" X.env (eval e1 X.env) = eval e1 X.env := by rfl) : EvD X δ (.Attribute e1 "a" pos) (.poly p a) :=
  v_pr cg (sc_Function T) (pp_Function_a T) (p_Function_a T) i_fn ⟨p, f, a, b, c, rfl, rfl⟩ ha hn hb
theorem x_fb (T : Tx K mg) (cg : Cg P w K mg base k N sc X) (ha : EvD X δ e1 (.fn p f a b c)) (hn : 2 ≤ k := by decide) (hb : attributeBase e1 "b" X.env (eval e1 X.env) = eval e1 X.env := by rfl) : EvD X δ (.Attribute e1 "b" pos) (.poly p b) :=
  v_pr cg (sc_Function T) (pp_Function_b T) (p_Function_b T) i_fn ⟨p, f, a, b, c, rfl, rfl⟩ ha hn hb
theorem x_fc (T : Tx K mg) (cg : Cg P w K mg base k N sc X) (ha : EvD X δ e1 (.fn p f a b c)) (hn : 2 ≤ k := by decide) (hb : attributeBase e1 "c" X.env (eval e1 X.env) = eval e1 X.env := by rfl) : EvD X δ (.Attribute e1 "c" pos) (.poly p c) :=
  v_pr cg (sc_Function T) (pp_Function_c T) (p_Function_c T) i_fn ⟨p, f, a, b, c, rfl, rfl⟩ ha hn hb
end
section
variable {X : Cx} {δ : List Sl} {e1 e2 e3 e4 : Expr} {pos p1 : Pos} {k : Nat} {N : List Str} {sc : Scope} {p : Int} [hp : PC p] {f a b c : Pol p}
/-- Function(curve, a, b, c) -/
theorem x_Function (T : Tx K mg) (cg : Cg P w K mg base k N sc X) (h1 : EvD X δ e1 (.curve p f.r)) (h2 : EvD X δ e2 (.poly p a.r)) (h3 : EvD X δ e3 (.poly p b.r)) (h4 : EvD X δ e4 (.poly p c.r)) (lf : f.len ≤ 9) (la : a.len ≤ 1000) (lb : b.len ≤ 1000) (lc : c.len ≤ 1000) (c0 : c ≠ 0) (hn : 12 ≤ k := by decide) (hg : Gl X "Function" := by first | rfl | exact Cg.gl (by assumption) rfl)
    (q1 : starEach [e1, e2, e3, e4] X.env = (false, eval e1 X.env) :: starEach [e2, e3, e4] X.env := by rfl) (q2 : starEach [e2, e3, e4] X.env = (false, eval e2 X.env) :: starEach [e3, e4] X.env := by rfl) (q3 : starEach [e3, e4] X.env = (false, eval e3 X.env) :: starEach [e4] X.env := by rfl) (q4 : starEach [e4] X.env = (false, eval e4 X.env) :: starEach [] X.env := by rfl) (hpl : (backTo pos (starEach [e2, e3, e4] X.env)).any (·.1) = false := by rfl) :
    EvD X δ (.Call (.Name "Function" p1) [e1, e2, e3, e4] [] pos) (.fn p f.r (ltP a b c).1.r (ltP a b c).2.1.r (ltP a b c).2.2.r) :=
  v_new cg (mk_Function T) (p_Function_init T) hn (g_Function T) (a_d h1 (a_d h2 (a_d h3 (a_d h4 a_nil q4) q3) q2) q1) (fun ds e => ⟨fun fs => ∃ d4 d5 d6 d7 d8, fs = fF p f.r (ltP a b c).1.r (ltP a b c).2.1.r (ltP a b c).2.2.r d4 d5 d6 d7 d8, ⟨p, hp, f, a, b, c, e, lf, la, lb, lc, c0, fun d4 d5 d6 d7 d8 => ⟨d4, d5, d6, d7, d8, rfl⟩⟩, fun fs ⟨d4, d5, d6, d7, d8, ef⟩ => ⟨⟨.poly p (ltP a b c).1.r, by rw [ef]; rfl⟩, _, rfl, by
    rw [ef]
    exact seal_fn⟩⟩) hg (by decide) q1 hpl
theorem x_Function1 (T : Tx K mg) (cg : Cg P w K mg base k N sc X) (h1 : EvD X δ e1 (.curve p f.r)) (h2 : EvD X δ e2 (.poly p a.r)) (h3 : EvD X δ e3 (.poly p b.r)) (h4 : EvD X δ e4 (.poly p (1 : Pol p).r)) (lf : f.len ≤ 9) (la : a.len ≤ 1000) (lb : b.len ≤ 1000) (hn : 12 ≤ k := by decide) (hg : Gl X "Function" := by first | rfl | exact Cg.gl (by assumption) rfl)
    (q1 : starEach [e1, e2, e3, e4] X.env = (false, eval e1 X.env) :: starEach [e2, e3, e4] X.env := by rfl) (q2 : starEach [e2, e3, e4] X.env = (false, eval e2 X.env) :: starEach [e3, e4] X.env := by rfl) (q3 : starEach [e3, e4] X.env = (false, eval e3 X.env) :: starEach [e4] X.env := by rfl) (q4 : starEach [e4] X.env = (false, eval e4 X.env) :: starEach [] X.env := by rfl) (hpl : (backTo pos (starEach [e2, e3, e4] X.env)).any (·.1) = false := by rfl) :
    EvD X δ (.Call (.Name "Function" p1) [e1, e2, e3, e4] [] pos) (.fn p f.r a.r b.r (1 : Pol p).r) := by
  have h := x_Function (pos := pos) (p1 := p1) T cg h1 h2 h3 h4 lf la lb (by rw [show (1 : Pol p).len = 1 from by show (1 : Pol p).r.length = 1; rw [one_r]; rfl]; decide) one_ne hn hg q1 q2 q3 q4 hpl
  rw [lt_one] at h
  exact h
end
theorem p_require_one_curve (T : Tx K mg) : FnA P w K mg base 4 (He.ga K "require_one_curve") (fun ds R => ∃ p f a b c a' b' c', ds = [.fn p f a b c, .fn p f a' b' c'] ∧ R .non) :=
  fn_ok (N := ["one", "other"]) (ps := ["one", "other"]) (d_require_one_curve T) (sc_of (by decide +kernel)) (fun _ _ _ _ _ _ us hl => match us, hl with | [_, _], _ => rfl) (fun _ _ ⟨_, _, _, _, _, _, _, _, e, _⟩ => e ▸ rfl) fun X cg hf ds R ⟨p, f, a, b, c, a', b', c', ed, hR⟩ => by
    subst ed
    have bf := T.bf
    exact r_if (k := false) ((y_neC T cg (v_sl cg (sc_Function T) (sl_Function_own_curve T) f_curve (v_var 0)) (v_sl cg (sc_Function T) (sl_Function_own_curve T) f_curve (v_var 1))).is (by rw [decide_eq_true rfl]; rfl)) (fun h => nomatch h) fun _ => r_nil (r_nil hR)
theorem p_Function_eq (T : Tx K mg) : FnA P w K mg base 4 (He.ma K (cF K) "__eq__") (fun ds R => ∃ p f a b c a' b' c', ds = [.fn p f a b c, .fn p f a' b' c'] ∧ R (.bl (decide (a = a') && (decide (b = b') && decide (c = c'))))) :=
  fn_ok (N := ["self", "other"]) (ps := ["self", "other"]) (d_Function___eq__ T) (sc_of (by decide +kernel)) (fun _ _ _ _ _ _ us hl => match us, hl with | [_, _], _ => rfl) (fun _ _ ⟨_, _, _, _, _, _, _, _, e, _⟩ => e ▸ rfl) fun X cg hf ds R ⟨p, f, a, b, c, a', b', c', ed, hR⟩ => by
    subst ed
    have bf := T.bf
    refine r_if (k := false) ((t_w (w_or (t_not (t_val (v_io cg (sc_Function T) (si_Function T) (ki_Function_Function T) (g_Function T) i_fn (v_var 1)))) fun _ => w_or1 (y_neC T cg (v_sl cg (sc_Function T) (sl_Function_own_curve T) f_curve (v_var 0)) (v_sl cg (sc_Function T) (sl_Function_own_curve T) f_curve (v_var 1))))).is (by rw [decide_eq_true rfl]; rfl)) (fun h => nomatch h) fun _ => r_nil ?_
    exact r_retD (v_and (x_eqR T cg (v_sl cg (sc_Function T) (sl_Function_own_a T) f_a (v_var 0)) (v_sl cg (sc_Function T) (sl_Function_own_a T) f_a (v_var 1))) fun _ => v_and (x_eqR T cg (v_sl cg (sc_Function T) (sl_Function_own_b T) f_b (v_var 0)) (v_sl cg (sc_Function T) (sl_Function_own_b T) f_b (v_var 1))) fun _ => v_one (x_eqR T cg (v_sl cg (sc_Function T) (sl_Function_own_c T) f_c (v_var 0)) (v_sl cg (sc_Function T) (sl_Function_own_c T) f_c (v_var 1)))) hR
def fadd {p : Int} [PC p] (a b c a' b' c' : Pol p) : Pol p × Pol p × Pol p := ltP (a * c' + a' * c) (b * c' + b' * c) (c * c')
theorem p_Function_add (T : Tx K mg) : FnA P w K mg base 13 (He.ma K (cF K) "__add__") (fun ds R => ∃ (p : Int) (_ : PC p) (f a b c a' b' c' : Pol p), ds = [.fn p f.r a.r b.r c.r, .fn p f.r a'.r b'.r c'.r] ∧ f.len ≤ 9 ∧ a.len ≤ 400 ∧ b.len ≤ 400 ∧ c.len ≤ 400 ∧ a'.len ≤ 400 ∧ b'.len ≤ 400 ∧ c'.len ≤ 400 ∧ c ≠ 0 ∧ c' ≠ 0 ∧ R (.fn p f.r (fadd a b c a' b' c').1.r (fadd a b c a' b' c').2.1.r (fadd a b c a' b' c').2.2.r)) :=
  fn_ok (N := ["self", "other", "a", "b"]) (ps := ["self", "other"]) (d_Function___add__ T) (sc_of (by decide +kernel)) (fun _ _ _ _ _ _ us hl => match us, hl with | [_, _], _ => rfl) (fun _ _ ⟨_, _, _, _, _, _, _, _, _, e, _⟩ => e ▸ rfl) fun X cg hf ds R ⟨p, hp, f, a, b, c, a', b', c', ed, lf, la, lb, lc, la', lb', lc', c0, c0', hR⟩ => by
    subst ed
    have bf := T.bf
    have m1 := Pol.mul_le a c'
    have m2 := Pol.mul_le a' c
    have m3 := Pol.mul_le b c'
    have m4 := Pol.mul_le b' c
    have m5 := Pol.mul_le c c'
    have s1 := Pol.add_len (a * c') (a' * c) (n := 1000) (by omega) (by omega)
    have s2 := Pol.add_len (b * c') (b' * c) (n := 1000) (by omega) (by omega)
    refine r_if (k := false) ((t_not (t_val (v_io cg (sc_Function T) (si_Function T) (ki_Function_Function T) (g_Function T) i_fn (v_var 1)))).is rfl) (fun h => nomatch h) fun _ => r_nil ?_
    refine r_expr (R := fun _ => True) (v_fn cg (p_require_one_curve T) (d_require_one_curve T) (g_require_one_curve T) (a_d (v_var 0) (a_d (v_var 1) a_nil)) ⟨p, f.r, a.r, b.r, c.r, a'.r, b'.r, c'.r, rfl, trivial⟩) ?_
    refine r_setD (d := .poly p (a * c' + a' * c).r) 2 cg (x_add T cg (x_mul T cg (v_sl cg (sc_Function T) (sl_Function_own_a T) f_a (v_var 0)) (v_sl cg (sc_Function T) (sl_Function_own_c T) f_c (v_var 1)) (by omega) (by omega)) (x_mul T cg (v_sl cg (sc_Function T) (sl_Function_own_a T) f_a (v_var 1)) (v_sl cg (sc_Function T) (sl_Function_own_c T) f_c (v_var 0)) (by omega) (by omega)) (by omega) (by omega)) ?_
    refine r_setD (d := .poly p (b * c' + b' * c).r) 3 cg (x_add T cg (x_mul T cg (v_sl cg (sc_Function T) (sl_Function_own_b T) f_b (v_var 0)) (v_sl cg (sc_Function T) (sl_Function_own_c T) f_c (v_var 1)) (by omega) (by omega)) (x_mul T cg (v_sl cg (sc_Function T) (sl_Function_own_b T) f_b (v_var 1)) (v_sl cg (sc_Function T) (sl_Function_own_c T) f_c (v_var 0)) (by omega) (by omega)) (by omega) (by omega)) ?_
    exact r_retD (x_Function T cg (v_sl cg (sc_Function T) (sl_Function_own_curve T) f_curve (v_var 0)) (v_var 2) (v_var 3) (x_mul T cg (v_sl cg (sc_Function T) (sl_Function_own_c T) f_c (v_var 0)) (v_sl cg (sc_Function T) (sl_Function_own_c T) f_c (v_var 1)) (by omega) (by omega)) lf s1 s2 (by omega) (Pol.mul_ne c0 c0')) hR
end
end DL

namespace DL
/-! ### the root part -/
def knownL (F : List Int) (n : Nat) (place : Int) : List Int := (rangeD (place + 1) 1 ((n : Int) - (place + 1)).toNat).map fun a => getI F a.toNat * getI F ((n : Int) + place - a).toNat
def rootStep (p : Int) (f : List Int) (n : Nat) (h : Int) (F : List Int) (place : Int) : List Int := F.set place.toNat ((getI f ((n : Int) + place).toNat - (knownL F n place).sum) * h % p)
def rootL (p : Int) (f : List Int) (n : Nat) (s : Int) : List Int := (rangeD ((n : Int) - 1) (-1) n).foldl (rootStep p f n (invI p (2 * s % p))) (List.replicate n 0 ++ [s])
theorem rootStep_len (p : Int) (f : List Int) (n : Nat) (h : Int) : ∀ (l : List Int) (F : List Int), (l.foldl (rootStep p f n h) F).length = F.length
  | [], F => rfl
  | x :: l, F => by rw [List.foldl_cons, rootStep_len p f n h l]; exact List.length_set ..
theorem rootL_len (p : Int) (f : List Int) (n : Nat) (s : Int) : (rootL p f n s).length = n + 1 := by
  unfold rootL
  rw [rootStep_len]
  simp
theorem rootStep_res {p : Int} (hp : 0 < p) (f : List Int) (n : Nat) (h : Int) : ∀ (l : List Int) (F : List Int), Res p F → Res p (l.foldl (rootStep p f n h) F)
  | [], F, hF => hF
  | x :: l, F, hF => by
    rw [List.foldl_cons]
    exact rootStep_res hp f n h l _ (res_set hF (mod_res hp _))
theorem rootL_res {p : Int} (hp : 0 < p) (f : List Int) (n : Nat) {s : Int} (h : 0 ≤ s ∧ s < p) : Res p (rootL p f n s) := rootStep_res hp f n _ _ _ fun x hx => by
  rcases List.mem_append.mp hx with q | q
  · rw [List.eq_of_mem_replicate q]; omega
  · rw [List.mem_singleton.mp q]; exact h
def stI (p : Int) (f0 : Int) (k : Int) (h : Int) : Int := (f0 - k) * h % p
theorem rootL1 (p : Int) (f : List Int) (s : Int) : rootL p f 1 s = [stI p (getI f 1) 0 (invI p (2 * s % p)), s] := by
  generalize hh : invI p (2 * s % p) = h
  unfold rootL
  rw [hh]
  rfl
theorem rootL2 (p : Int) (f : List Int) (s : Int) : rootL p f 2 s = [stI p (getI f 2) (stI p (getI f 3) 0 (invI p (2 * s % p)) * stI p (getI f 3) 0 (invI p (2 * s % p)) + 0) (invI p (2 * s % p)), stI p (getI f 3) 0 (invI p (2 * s % p)), s] := by
  generalize hh : invI p (2 * s % p) = h
  unfold rootL
  rw [hh]
  rfl
def r3a (p : Int) (f : List Int) (h : Int) : Int := stI p (getI f 5) 0 h
def r3b (p : Int) (f : List Int) (h : Int) : Int := stI p (getI f 4) (r3a p f h * r3a p f h + 0) h
def r3c (p : Int) (f : List Int) (h : Int) : Int := stI p (getI f 3) (r3b p f h * r3a p f h + (r3a p f h * r3b p f h + 0)) h
theorem rootL3 (p : Int) (f : List Int) (s : Int) : rootL p f 3 s = [r3c p f (invI p (2 * s % p)), r3b p f (invI p (2 * s % p)), r3a p f (invI p (2 * s % p)), s] := by
  generalize hh : invI p (2 * s % p) = h
  unfold rootL
  rw [hh]
  rfl
section
variable {p : Int} [hp : PC p]
theorem half_ok {s h : Int} (e : h * (2 * s) % p = 1) (x k : Int) : 2 * s * stI p x k h % p = (x - k) % p := by
  unfold stI
  rw [emm (rfl : 2 * s % p = _) (mm _), Int.mul_comm, Int.mul_assoc, emm (rfl : (x - k) % p = _) (show h * (2 * s) % p = 1 % p by rw [e, one_mod]), Int.mul_one]
theorem half_inv {s : Int} (h : s % p ≠ 0) : invI p (2 * s % p) * (2 * s) % p = 1 := by
  have h2 := res_mul_ne hp.pr (two_ne hp.pr) h
  have h3 := mod_res hp.pos (2 * s)
  have := (inv_mod (p := p) (n := 2 * s % p) (by omega) h3.2).1
  rw [← this]
  exact emm rfl (mm _).symm
theorem sq_rest {f S : Pol p} {w : Nat} (hS : S.len ≤ w + 1) (hf : f.len ≤ w + w + 1) (h : ∀ i, w ≤ i → i ≤ w + w → cv S.co S.co i % p = f.co i % p) : (f - S * S).len ≤ w := (Pol.len_le _).mpr fun i hi => by
  rw [Pol.co_sub, Pol.co_mul]
  by_cases h2 : i ≤ w + w
  · rw [Int.sub_emod, mm, h i hi h2, ← Int.sub_emod, Int.sub_self]; rfl
  · have t := Pol.mul_le S S
    have : cv S.co S.co i = 0 := (cv_top (m := w) (n := w) (fun j hj => (Pol.len_le S).mp hS j (by omega)) (fun j hj => (Pol.len_le S).mp hS j (by omega))).2 i (by omega)
    rw [this, (Pol.len_le f).mp hf i (by omega)]
    rfl
def rootS (f : Pol p) (n : Nat) (s : Int) (hs : 0 < s ∧ s < p) : Pol p := ⟨rootL p f.r n s, rootL_res hp.pos _ _ ⟨Int.le_of_lt hs.1, hs.2⟩, by
  have hl := rootL_len p f.r n s
  have hn : rootL p f.r n s ≠ [] := fun z => by rw [z] at hl; exact absurd hl (by simp)
  rw [lastD hn, last_getI hn, hl, Nat.add_sub_cancel]
  have key : ∀ (h : Int) (k : Nat) (F : List Int), k ≤ n → F.length = n + 1 → getI ((rangeD ((k : Int) - 1) (-1) k).foldl (rootStep p f.r n h) F) n = getI F n := fun h k => by
    induction k with
    | zero => exact fun F _ _ => rfl
    | succ k ih =>
      intro F hk hF
      rw [range_down, List.foldl_cons, ih _ (by omega) (by unfold rootStep; rw [List.length_set]; exact hF)]
      unfold rootStep
      rw [getI_set _ _ _ _ (by rw [Int.toNat_natCast]; omega), Int.toNat_natCast, if_neg (by omega)]
  unfold rootL
  rw [key _ n _ (Nat.le_refl _) (by simp), getI_snoc, if_pos (by simp)]
  omega⟩
theorem root_fd {f : Pol p} {n : Nat} {s : Int} (hn : n = 1 ∨ n = 2 ∨ n = 3) (hs : 0 < s ∧ s < p) (hl : f.len = n + n + 1) (hq : s * s % p = f.ld) (nosq : ∀ P, f ≠ P * P) : Fd f (rootS f n s hs) n s := by
  have s0 := sm_ne hs.1 hs.2
  have sm : s % p = s := Int.emod_eq_of_lt (by omega) hs.2
  have hi := half_inv s0
  have f0 : f ≠ 0 := fun z => by rw [z, (Pol.len0 (0 : Pol p)).mpr rfl] at hl; omega
  have ftop : f.Top (n + n) (s * s) := by
    have := Pol.top_of f0
    rw [hl, Nat.add_sub_cancel] at this
    exact this.congr (by rw [← hq, mm])
  have fco : f.co (n + n) % p = s * s % p := ftop.at_
  have sl : (rootS f n s hs).len = n + 1 := rootL_len p f.r n s
  refine ⟨by omega, s0, ?_, ftop, sq_rest (Nat.le_of_eq sl) (Nat.le_of_eq hl) ?_, nosq⟩
  · refine ⟨?_, fun i hi => (Pol.len_le _).mp (Nat.le_of_eq sl) i (by omega)⟩
    show getI (rootL p f.r n s) n % p = s % p
    rcases hn with rfl | rfl | rfl
    · rw [rootL1]; rfl
    · rw [rootL2]; rfl
    · rw [rootL3]; rfl
  · intro i h1 h2
    rcases hn with rfl | rfl | rfl
    · have e : (rootS f 1 s hs).co = getI [stI p (getI f.r 1) 0 (invI p (2 * s % p)), s] := by rw [← rootL1]; rfl
      rw [e]
      have k1 := half_ok hi (getI f.r 1) 0
      generalize stI p (getI f.r 1) 0 (invI p (2 * s % p)) = x at *
      have : i = 1 ∨ i = 2 := by omega
      rcases this with rfl | rfl
      · show (x * s + s * x) % p = _
        rw [show x * s + s * x = 2 * s * x by rw [Int.mul_comm x, Int.mul_assoc]; omega, k1, Int.sub_zero]
      · show (x * 0 + (s * s + 0 * x)) % p = _
        rw [show x * 0 + (s * s + 0 * x) = s * s by simp]
        exact fco.symm
    · have e : (rootS f 2 s hs).co = getI [stI p (getI f.r 2) (stI p (getI f.r 3) 0 (invI p (2 * s % p)) * stI p (getI f.r 3) 0 (invI p (2 * s % p)) + 0) (invI p (2 * s % p)), stI p (getI f.r 3) 0 (invI p (2 * s % p)), s] := by rw [← rootL2]; rfl
      rw [e]
      have k1 := half_ok hi (getI f.r 3) 0
      generalize stI p (getI f.r 3) 0 (invI p (2 * s % p)) = x at *
      have k2 := half_ok hi (getI f.r 2) (x * x + 0)
      generalize stI p (getI f.r 2) (x * x + 0) (invI p (2 * s % p)) = y at *
      have : i = 2 ∨ i = 3 ∨ i = 4 := by omega
      rcases this with rfl | rfl | rfl
      · show (y * s + (x * x + s * y)) % p = _
        rw [show y * s + (x * x + s * y) = 2 * s * y + (x * x + 0) by rw [Int.mul_comm y, Int.mul_assoc]; omega, ema k2 rfl]
        congr 1
        show _ = getI f.r 2
        omega
      · show (y * 0 + (x * s + (s * x + 0 * y))) % p = _
        rw [show y * 0 + (x * s + (s * x + 0 * y)) = 2 * s * x by rw [Int.mul_comm x, Int.mul_assoc]; simp; omega, k1, Int.sub_zero]
      · show (y * 0 + (x * 0 + (s * s + (0 * x + 0 * y)))) % p = _
        rw [show y * 0 + (x * 0 + (s * s + (0 * x + 0 * y))) = s * s by simp]
        exact fco.symm
    · have e : (rootS f 3 s hs).co = getI [r3c p f.r (invI p (2 * s % p)), r3b p f.r (invI p (2 * s % p)), r3a p f.r (invI p (2 * s % p)), s] := by rw [← rootL3]; rfl
      rw [e]
      have k1 : 2 * s * r3a p f.r (invI p (2 * s % p)) % p = _ := half_ok hi (getI f.r 5) 0
      have k2 : 2 * s * r3b p f.r (invI p (2 * s % p)) % p = _ := half_ok hi (getI f.r 4) (r3a p f.r (invI p (2 * s % p)) * r3a p f.r (invI p (2 * s % p)) + 0)
      have k3 : 2 * s * r3c p f.r (invI p (2 * s % p)) % p = _ := half_ok hi (getI f.r 3) (r3b p f.r (invI p (2 * s % p)) * r3a p f.r (invI p (2 * s % p)) + (r3a p f.r (invI p (2 * s % p)) * r3b p f.r (invI p (2 * s % p)) + 0))
      generalize r3a p f.r (invI p (2 * s % p)) = x at *
      generalize r3b p f.r (invI p (2 * s % p)) = y at *
      generalize r3c p f.r (invI p (2 * s % p)) = z at *
      have : i = 3 ∨ i = 4 ∨ i = 5 ∨ i = 6 := by omega
      rcases this with rfl | rfl | rfl | rfl
      · show (z * s + (y * x + (x * y + s * z))) % p = _
        rw [show z * s + (y * x + (x * y + s * z)) = 2 * s * z + (y * x + (x * y + 0)) by rw [Int.mul_comm z, Int.mul_assoc]; omega, ema k3 rfl]
        congr 1
        show _ = getI f.r 3
        omega
      · show (z * 0 + (y * s + (x * x + (s * y + 0 * z)))) % p = _
        rw [show z * 0 + (y * s + (x * x + (s * y + 0 * z))) = 2 * s * y + (x * x + 0) by rw [Int.mul_comm y, Int.mul_assoc]; simp; omega, ema k2 rfl]
        congr 1
        show _ = getI f.r 4
        omega
      · show (z * 0 + (y * 0 + (x * s + (s * x + (0 * y + 0 * z))))) % p = _
        rw [show z * 0 + (y * 0 + (x * s + (s * x + (0 * y + 0 * z)))) = 2 * s * x by rw [Int.mul_comm x, Int.mul_assoc]; simp; omega, k1, Int.sub_zero]
      · show (z * 0 + (y * 0 + (x * 0 + (s * s + (0 * x + (0 * y + 0 * z)))))) % p = _
        rw [show z * 0 + (y * 0 + (x * 0 + (s * s + (0 * x + (0 * y + 0 * z))))) = s * s by simp]
        exact fco.symm
end
end DL

namespace DL
open PySem PySem.Spec PyProof.Rows L2
/-- what is given of a curve -/
structure CD (p : Int) [PC p] (f : Pol p) (n : Nat) (s : Int) : Prop where
  hn : n = 1 ∨ n = 2 ∨ n = 3
  hl : f.len = n + n + 1
  hs : 0 < s ∧ s < p
  hq : s * s % p = f.ld
  two : Two p f.r
  root : (rootsOf p f.ld)[0]? = some s
  nosq : ∀ P : Pol p, f ≠ P * P
theorem CD.fd {p : Int} [PC p] {f : Pol p} {n : Nat} {s : Int} (h : CD p f n s) : Fd f (rootS f n s h.hs) n s := root_fd h.hn h.hs h.hl h.hq h.nosq
theorem rims_at {p : Int} {f : List Int} {s : Int} (h : (rootsOf p (f.getLastD 0))[0]? = some s) : atI ((rootsOf p (f.getLastD 0)).map fun r => Dt.tup [.str "rim", .int r]) 0 = some (.tup [.str "rim", .int s]) := by
  cases e : rootsOf p (f.getLastD 0) with
  | nil => rw [e] at h; cases h
  | cons x l =>
    rw [e] at h
    cases h
    unfold atI ixN
    rw [if_pos (Int.le_refl 0), if_pos (by rw [List.length_map, List.length_cons]; omega)]
    rfl
section
variable {P : Program} {w : World} {K : PySem.W.Frag} {mg : Str → Option Value} {base : Heap}
theorem p_require_two (T : Tx K mg) : FnA P w K mg base 3 (He.ga K "require_two") (fun ds R => ∃ p f, ds = [.curve p f] ∧ Two p f ∧ R .non) :=
  fn_ok (N := ["value"]) (ps := ["value"]) (d_require_two T) (sc_of (by decide +kernel)) (fun _ _ _ _ _ _ us hl => match us, hl with | [_], _ => rfl) (fun _ _ ⟨_, _, e, _⟩ => e ▸ rfl) fun X cg hf ds R ⟨p, f, ed, ht, hR⟩ => by
    subst ed
    have bf := T.bf
    exact r_if (k := false) ((t_w (w_or (t_not (t_val (v_io cg (sc_Curve T) (si_Curve T) (ki_Curve_Curve T) (g_Curve T) i_curve (v_var 0)))) fun _ => w_or1 (t_neS (x_ckind T cg ht (v_var 0)) (v_gs cg (g_KIND T))))).is (by rw [decide_eq_true rfl]; rfl)) (fun h => nomatch h) fun _ => r_nil (r_nil hR)
theorem p_require_within (T : Tx K mg) : FnA P w K mg base 3 (He.ga K "require_within") (fun ds R => ∃ i lo hi : Int, ds = [.int i, .int lo, .int hi] ∧ lo ≤ i ∧ i ≤ hi ∧ -(10 ^ 60) < i ∧ i < 10 ^ 60 ∧ R .non) :=
  fn_ok (N := ["value", "least", "most"]) (ps := ["value", "least", "most"]) (d_require_within T) (sc_of (by decide +kernel)) (fun _ _ _ _ _ _ us hl => match us, hl with | [_, _, _], _ => rfl) (fun _ _ ⟨_, _, _, e, _⟩ => e ▸ rfl) fun X cg hf ds R ⟨i, lo, hi, ed, h1, h2, h3, h4, hR⟩ => by
    subst ed
    have bf := T.bf
    exact r_if (k := false) ((t_w (w_or (t_not (t_val (v_fn cg (p_is_integer T) (d_is_integer T) (g_is_integer T) (a_d (v_var 0) a_nil) ⟨i, rfl, rfl⟩))) fun _ => w_or1 (t_not (t_chain op_le op_le (v_var 1) (v_var 0) (v_var 2))))).is (by rw [decide_eq_true h1, decide_eq_true h2, decide_eq_true h3, decide_eq_true h4]; rfl)) (fun h => nomatch h) fun _ => r_nil (r_nil hR)
theorem rep0s (n : Nat) (i : Int) (h : i.toNat = n) : (List.replicate i.toNat [Dt.int 0]).flatten = rowD (List.replicate n 0) := by
  rw [h]
  unfold rowD
  rw [List.map_replicate]
  induction n generalizing i with
  | zero => rfl
  | succ n ih =>
    rw [List.replicate_succ, List.flatten_cons, ih n (by simp), List.replicate_succ]
    rfl
theorem knownL_res {p : Int} {F : List Int} {n : Nat} {a : Int} (hp : 0 < p) (hp7 : p ≤ 7) (hF : Res p F) (i j : Nat) : -(2 ^ 64) < getI F i ∧ getI F i < 2 ^ 64 := by
  have := getI_res hp hF i
  exact small64 (by omega) (by omega)
theorem p_root_in (T : Tx K mg) : FnA P w K mg base 7 (He.ga K "root_in") (fun ds R => ∃ (p : Int) (_ : PC p) (f : Pol p) (n : Nat) (s : Int) (h : CD p f n s), ds = [.curve p f.r] ∧ R (.poly p (rootS f n s h.hs).r)) :=
  fn_ok (N := ["curve", "prime", "f", "size", "found", "half", "place", "known", "at"]) (ps := ["curve"]) (d_root_in T) (sc_of (by decide +kernel)) (fun _ _ _ _ _ _ us hl => match us, hl with | [_], _ => rfl) (fun _ _ ⟨_, _, _, _, _, _, e, _⟩ => e ▸ rfl) fun X cg hf ds R ⟨p, hp, f, n, s, h, ed, hR⟩ => by
    subst ed
    have bf := T.bf
    have h0 := hp.pos
    have h7 := hp.pr.le
    have hl : f.r.length = n + n + 1 := h.hl
    have n3 : 1 ≤ n ∧ n ≤ 3 := by have := h.hn; omega
    have hs := h.hs
    have s0 := sm_ne hs.1 hs.2
    have t0 := res_mul_ne hp.pr (two_ne hp.pr) s0
    have t1 := mod_res h0 (2 * s)
    have hv := inv_ok hp.pr (n := 2 * s % p) (by omega) t1.2
    refine r_asgT (d := .tup [.int p, .poly p f.r, .int (n : Int)]) (v_tupD (a_d (x_cprime T cg (v_var 0)) (a_d (x_cf T cg (v_var 0)) (a_d ((v_add (x_cgenus T cg (v_var 0)) v_int).is (by congr 1; omega)) a_nil)))) (tg_tup cg (tp_cons 1 cg (tp_cons 2 cg (tp_cons 3 cg tp_nil)))) ?_ (hw := cg.sw rfl)
    refine r_setM (ds := rowD (List.replicate n 0 ++ [s])) 4 cg ?_ ?_
    · have e1 : (List.replicate (n : Int).toNat [Dt.int 0]).flatten ++ [Dt.int s] = rowD (List.replicate n 0 ++ [s]) := by
        rw [rep0s n (n : Int) (by simp), ← row_app]; rfl
      rw [← e1]
      refine l_cat (by rw [rep0s n (n : Int) (by simp)]; simp; omega) (v_L (l_rep (by omega) (by omega) (by decide) (v_L (l_lst (a_d v_int a_nil))) (v_var 3))) (v_L (l_lst (a_d (v_item .t (v_item .t (x_crims T cg h.two (v_var 0)) v_int (rims_at h.root)) v_int rfl) a_nil)))
    refine r_setD (d := .int (invI p (2 * s % p))) 5 cg (v_fn cg (p_residue_inverse T) (d_residue_inverse T) (g_residue_inverse T) (a_d (v_var 1) (a_d (v_mod h0 (v_mul (.inl (by decide)) v_int (v_itemM 4 (v_var 3) rfl (d := .int s) (by
      rw [atI_nat (by simp : n < (List.replicate n 0 ++ [s]).length), getI_snoc, if_pos (by simp)]))) (v_var 1)) a_nil)) ⟨p, _, rfl, hp.pr, by omega, t1.2, rfl⟩) ?_
    let st : List Int → List Sl := fun F => [.im (.curve p f.r), .im (.int p), .im (.poly p f.r), .im (.int (n : Int)), .mu (rowD F), .im (.int (invI p (2 * s % p))), .no, .no, .no]
    have el : (rangeD ((n : Int) - 1) (-1) (((n : Int) - 1) - (-1)).toNat).map Dt.int = (rangeD ((n : Int) - 1) (-1) n).map Dt.int := by
      rw [show ((n : Int) - 1 - (-1)).toNat = n by omega]
    refine r_forF (xs := rangeD ((n : Int) - 1) (-1) n) (g := Dt.int) cg ((it_range3 (v_sub (v_var 3) v_int) (v_neg v_int) (v_neg v_int) ⟨(range62n (by omega) (by omega)).1, (range62n (by omega) (by omega)).2, (range62n (by decide) (by decide)).1, (range62n (by decide) (by decide)).2⟩).is el) st (rootStep p f.r n (invI p (2 * s % p))) (List.replicate n 0 ++ [s]) Le.rfl (fun m i hi => ⟨tg_name 6 cg, ?_⟩) ?_
    · obtain ⟨hm, ei⟩ := range_at hi
      generalize hF : ((rangeD ((n : Int) - 1) (-1) n).take m).foldl (rootStep p f.r n (invI p (2 * s % p))) (List.replicate n 0 ++ [s]) = F
      have lF : F.length = n + 1 := by rw [← hF, rootStep_len]; simp
      have rF : Res p F := by
        rw [← hF]
        refine rootStep_res h0 _ _ _ _ _ fun x hx => ?_
        rcases List.mem_append.mp hx with q | q
        · rw [List.eq_of_mem_replicate q]; omega
        · rw [List.mem_singleton.mp q]; omega
      have i0 : 0 ≤ i := by omega
      refine r_setD (d := .int (knownL F n i).sum) 7 cg (v_sum cg ((v_lc cg (lc_map (xs := rangeD (i + 1) 1 ((n : Int) - (i + 1)).toNat) (gd := Dt.int) (f := fun a => .int (getI F a.toNat * getI F ((n : Int) + i - a).toNat)) [("at", 8)] cg (by rw [rangeD_l]; omega) (it_range2 (v_add (v_var 6) v_int) (v_var 3) ⟨(range62n (by omega) (by omega)).1, (range62n (by omega) (by omega)).2, (range62n (by omega) (by omega)).1, (range62n (by omega) (by omega)).2⟩) fun XB cb a ha =>
        ⟨tg_name 8 cb, v_mul (.inl (knownL_res (n := 0) (a := 0) h0 h7 rF _ 0)) (v_itemM 4 (v_var 8) rfl (atI_is (m := a.toNat) (by have := mem_range1 ha; omega) (by have := mem_range1 ha; omega))) (v_itemM 4 (v_sub (v_add (v_var 3) (v_var 6)) (v_var 8)) rfl (atI_is (m := ((n : Int) + i - a).toNat) (by have := mem_range1 ha; omega) (by have := mem_range1 ha; omega)))⟩)).is (by rw [lst_map]; rfl))) ?_
      refine r_put 4 (R := is_ (.int ((getI f.r ((n : Int) + i).toNat - (knownL F n i).sum) * invI p (2 * s % p) % p))) (v_mod h0 (v_mul (.inr (small64 (by omega) (by omega))) (v_sub (v_itemO cg (mm_Poly___getitem__ T).at_ (fi_getitem T) (mm_Poly___getitem__ T).fn (p_Poly_item T) (by decide) i_poly (v_var 2) (v_add (v_var 3) (v_var 6)) ⟨p, f.r, (n : Int) + i, rfl, by omega, by omega, rfl⟩) (v_var 7)) (v_var 5)) (v_var 1)) (v_var 6) rfl (ixN_nat (m := i.toNat) (by omega) (by rw [row_len]; omega)) fun d hd => r_nil ?_
      cases hd
      rw [row_set]
      exact .eq (.eq (.eq (.eq (.eq (.eq (.no (.no (.no .nil))))))))
    · exact r_retD (x_new (u := rootS f n s h.hs) T cg (v_var 1) (v_tupM 4 rfl) (by
        show (rootL p f.r n s).length ≤ 1000
        rw [rootL_len]
        omega)) hR
end
end DL

namespace DL
open PySem PySem.Spec PyProof.Rows L2

/-! ### a list == [] -/
def rEqE (K : PySem.W.Frag) : R2 := fun x y H Q => ∃ l xs b, x = .ref l ∧ y = .ref b ∧ SqL K H l xs ∧ SqL K H b [] ∧ Q (.bl xs.isEmpty) H
theorem op_eqE {X : Cx} (hu : X.A.units + 64 < cLine) : OpR X (compareOp .Eq) (rEqE X.K) := by
  intro pins s σ H x y v u Q I rx ry h
  obtain ⟨l, xs, b, ex, ey, hl, hb, q⟩ := h
  subst ex ey
  obtain rfl : v = Value.ref l := rx
  obtain rfl : u = Value.ref b := ry
  obtain ⟨its, r1, p1, _⟩ := I.list hl
  obtain ⟨its2, r2, p2, _⟩ := I.list hb
  cases r2
  show wpAny _ _ (richCompare .Eq (.ref l) (.ref b)) _ _ _
  cases r1 with
  | nil => exact PySem.SeqAt.rcP_lists (e := fun _ => true) p1.isList p2.isList rfl (by omega) (fun j h1 _ => absurd h1 (by simp)) _ _ ⟨.bl true, H, I, rfl, q⟩
  | cons a b => exact PySem.SeqAt.eq_list_lengthsAt p1.isList p2.isList (by simp) (by omega) ⟨.bl false, H, I, rfl, q⟩
section
variable {X : Cx} {δ : List Sl} {a b c e : Expr} {pos pos' : Pos} {ds : List Dt} {P : Program} {w : World} {K : PySem.W.Frag} {mg : Str → Option Value} {base : Heap} {k : Nat} {N : List Str} {sc : Scope}
theorem od_eqE : OpD X (rEqE X.K) (.lst ds) (.lst []) (is_ (.bl ds.isEmpty)) := fun M H vx vy _ rx ry => by
  obtain ⟨l, xs, rfl, h1, h2⟩ := rep_lst.mp rx
  obtain ⟨b, ys, rfl, h3, h4⟩ := rep_lst.mp ry
  rw [reps_nil.mp h4] at h3
  refine ⟨l, xs, b, rfl, rfl, SqL.of (hid_ex _ _ h1), SqL.of (hid_ex _ _ h3), Ex.rfl, _, rfl, ?_⟩
  have hl := reps_len h2
  have : xs.isEmpty = ds.isEmpty := by
    cases ds <;> cases xs <;> first | rfl | (simp at hl)
  rw [this]
  exact rep_bl.mpr rfl
theorem t_eqE (cg : Cg P w K mg base k N sc X) (ha : EvD X δ a (.lst ds)) (hb : EvD X δ b (.lst [])) : EvT X δ (.Compare a [.Eq] [b] pos) ds.isEmpty := t_cmp (op_eqE cg.u64) ha hb (d2 od_eqE) (nomark _)
end
end DL

namespace DL
open PySem PySem.Spec PyProof.Rows L2
section
variable {X : Cx} {δ : List Sl} {e1 e2 : Expr} {pos p1 : Pos} {P : Program} {w : World} {K : PySem.W.Frag} {mg : Str → Option Value} {base : Heap} {k : Nat} {N : List Str} {sc : Scope} {p : Int} [hp : PC p]
theorem x_one (T : Tx K mg) (cg : Cg P w K mg base k N sc X) {kt j : Nat} {q2 q3 : Pos} (ha : EvD X δ e1 (.int p)) (hn : 6 ≤ k := by decide) (hg : Gl X "Poly" := by first | rfl | exact Cg.gl (by assumption) rfl)
    (he : starEach [e1, .Tuple [.Constant (.int 1) j q3] kt q2] X.env = (false, eval e1 X.env) :: starEach [.Tuple [.Constant (.int 1) j q3] kt q2] X.env := by rfl) (he2 : starEach [.Tuple [.Constant (.int 1) j q3] kt q2] X.env = (false, eval (.Tuple [.Constant (.int 1) j q3] kt q2) X.env) :: starEach [] X.env := by rfl)
    (he3 : starEach [.Constant (.int 1) j q3] X.env = (false, eval (.Constant (.int 1) j q3) X.env) :: starEach [] X.env := by rfl) (hpl : (backTo pos (starEach [.Tuple [.Constant (.int 1) j q3] kt q2] X.env)).any (·.1) = false := by rfl) : EvD X δ (.Call (.Name "Poly" p1) [e1, .Tuple [.Constant (.int 1) j q3] kt q2] [] pos) (.poly p (1 : Pol p).r) :=
  x_new (u := (1 : Pol p)) T cg ha ((v_tupD (a_d v_int a_nil he3)).is (by rw [one_r]; rfl)) (by show (1 : Pol p).r.length ≤ 1000; rw [one_r]; decide) hn hg he he2 hpl
theorem x_nil (T : Tx K mg) (cg : Cg P w K mg base k N sc X) {kt : Nat} {q2 : Pos} (ha : EvD X δ e1 (.int p)) (hn : 6 ≤ k := by decide) (hg : Gl X "Poly" := by first | rfl | exact Cg.gl (by assumption) rfl)
    (he : starEach [e1, .Tuple [] kt q2] X.env = (false, eval e1 X.env) :: starEach [.Tuple [] kt q2] X.env := by rfl) (he2 : starEach [.Tuple [] kt q2] X.env = (false, eval (.Tuple [] kt q2) X.env) :: starEach [] X.env := by rfl)
    (hpl : (backTo pos (starEach [.Tuple [] kt q2] X.env)).any (·.1) = false := by rfl) : EvD X δ (.Call (.Name "Poly" p1) [e1, .Tuple [] kt q2] [] pos) (.poly p (0 : Pol p).r) :=
  x_new (u := (0 : Pol p)) T cg ha ((v_tupD a_nil).is (by rw [(Pol.nil_iff (0 : Pol p)).mpr rfl]; rfl)) (by show (0 : Pol p).r.length ≤ 1000; rw [(Pol.nil_iff (0 : Pol p)).mpr rfl]; decide) hn hg he he2 hpl
end
section
variable {P : Program} {w : World} {K : PySem.W.Frag} {mg : Str → Option Value} {base : Heap}
/-! ### powers of residues -/
theorem pow_half (r p : Int) (f : Int) (e : Nat) : (if e % 2 = 1 then f * r % p else f) * (r * r % p) ^ (e / 2) % p = f * r ^ e % p := by
  have h2 : (r * r % p) ^ (e / 2) % p = (r * r) ^ (e / 2) % p := by
    generalize e / 2 = n
    induction n with
    | zero => rw [Int.pow_zero, Int.pow_zero]
    | succ n ih => rw [Int.pow_succ, Int.pow_succ]; exact emm ih (mm _)
  have h3 : (r * r) ^ (e / 2) = r ^ (2 * (e / 2)) := by rw [Int.pow_mul, Int.pow_succ, Int.pow_succ, Int.pow_zero, Int.one_mul]
  split
  · rename_i h
    rw [emm (mm (f * r)) h2, h3, Int.mul_assoc]
    congr 2
    have : e = 2 * (e / 2) + 1 := by omega
    conv => rhs; rw [this, Int.pow_succ]
    rw [Int.mul_comm]
  · rename_i h
    rw [emm (rfl : f % p = _) h2, h3]
    congr 3
    omega
theorem p_residue_power (T : Tx K mg) : FnA P w K mg base 1 (He.ga K "residue_power") (fun ds R => ∃ (p r : Int) (e : Nat), ds = [.int p, .int r, .int (e : Int)] ∧ Pr p ∧ 0 ≤ r ∧ r ≤ 10 ∧ R (.int (r ^ e % p))) :=
  fn_ok (N := ["prime", "residue", "exponent", "found"]) (ps := ["prime", "residue", "exponent"]) (d_residue_power T) (sc_of (by decide +kernel)) (fun _ _ _ _ _ _ us hl => match us, hl with | [_, _, _], _ => rfl) (fun _ _ ⟨_, _, _, e, _⟩ => e ▸ rfl) fun X cg hf ds R ⟨p, r, e, ed, hp, r0, r1, hR⟩ => by
    subst ed
    have bf := T.bf
    have h0 := hp.pos
    have h7 := hp.le
    have h3 := hp.ge
    refine r_setD 3 cg v_int ?_
    refine r_while cg (fun m δ' => ∃ (r' f : Int) (e' : Nat), δ' = [.im (.int p), .im (.int r'), .im (.int (e' : Int)), .im (.int f)] ∧ 0 ≤ r' ∧ r' ≤ 10 ∧ 0 ≤ f ∧ f < p ∧ e' = m ∧ f * r' ^ e' % p = r ^ e % p) e ⟨r, 1, e, rfl, r0, r1, by omega, by omega, rfl, by rw [Int.one_mul]⟩ fun m δ' ⟨r', f, e', ed, a0, a1, f0, f1, em, hi⟩ => ?_
    subst ed em
    refine ⟨_, t_gt (v_var 2) v_int, fun h => ?_, fun h => ?_⟩
    · have he : 0 < e' := by have := of_decide_eq_true h; omega
      have e2 : ((e' : Int) / 2) = ((e' / 2 : Nat) : Int) := by omega
      have hm := mod_res h0 (r' * r')
      by_cases ho : e' % 2 = 1
      · refine r_if (k := true) ((t_eqI (v_mod (by decide) (v_var 2) v_int) v_int).is (decide_eq_true (by omega))) (fun _ => ?_) fun h => nomatch h
        refine r_setD (d := .int (f * r' % p)) 3 cg (v_mod h0 (v_mul (.inl (small64 (by omega) (by omega))) (v_var 3) (v_var 1)) (v_var 0)) (r_nil ?_)
        have hf := mod_res h0 (f * r')
        refine r_augF 2 cg rfl v_int (by decide) ?_
        refine r_setD (d := .int (r' * r' % p)) 1 cg (v_mod h0 (v_mul (.inl (small64 (by omega) (by omega))) (v_var 1) (v_var 1)) (v_var 0)) (r_nil ?_)
        refine ⟨e' / 2, by omega, r' * r' % p, f * r' % p, e' / 2, by rw [← e2]; rfl, hm.1, by omega, hf.1, hf.2, rfl, ?_⟩
        rw [← hi, ← pow_half r' p f e', if_pos ho]
      · refine r_if (k := false) ((t_eqI (v_mod (by decide) (v_var 2) v_int) v_int).is (decide_eq_false (by omega))) (fun h => nomatch h) fun _ => r_nil ?_
        refine r_augF 2 cg rfl v_int (by decide) ?_
        refine r_setD (d := .int (r' * r' % p)) 1 cg (v_mod h0 (v_mul (.inl (small64 (by omega) (by omega))) (v_var 1) (v_var 1)) (v_var 0)) (r_nil ?_)
        refine ⟨e' / 2, by omega, r' * r' % p, f, e' / 2, by rw [← e2]; rfl, hm.1, by omega, f0, f1, rfl, ?_⟩
        rw [← hi, ← pow_half r' p f e', if_neg ho]
    · have he : e' = 0 := by have := of_decide_eq_false h; omega
      subst he
      rw [Int.pow_zero, Int.mul_one, Int.emod_eq_of_lt f0 f1] at hi
      refine r_retD (v_var 3) ?_
      rw [hi]
      exact hR
/-! ### the chain's rows -/
def rowsF {p : Int} [PC p] (f S : Pol p) (m : Nat) : List (List Int × List Int × List Int) := (List.range m).map fun i => ((sA f S i).r, (sP f S i).r, (sQ f S i).r)
def rowF {p : Int} [PC p] (f S : Pol p) (i : Nat) : Dt := .tup [.poly p (sA f S i).r, .poly p (sP f S i).r, .poly p (sQ f S i).r]
theorem rowsF_D {p : Int} [PC p] (f S : Pol p) (m : Nat) : rowsD p (rowsF f S m) = (List.range m).map (rowF f S) := by
  unfold rowsD rowsF
  rw [List.map_map]
  rfl
theorem cnt {α : Type} : ∀ (l : List α) (n : Nat), l.foldl (fun k _ => k + 1) n = n + l.length
  | [], n => rfl
  | x :: l, n => by rw [List.foldl_cons, cnt l]; simp; omega
theorem cnt_range {m n : Nat} (h : n < m) : ((List.range m).take n).foldl (fun k _ => k + 1) 0 = n := by
  rw [cnt, List.length_take, List.length_range]
  omega
theorem range_get {m n i : Nat} (h : (List.range m)[n]? = some i) : i = n ∧ n < m := by
  have hl := (List.getElem?_eq_some_iff.mp h).1
  rw [List.length_range] at hl
  rw [List.getElem?_range hl] at h
  exact ⟨(Option.some.inj h).symm, hl⟩
/-- bounds of the chain -/
structure Bd {p : Int} [PC p] (f S : Pol p) (m : Nat) : Prop where
  a : ∀ i, i < m → (sA f S i).len ≤ 100
  u : ∀ i, i ≤ m → (sU f S i).1.1.len ≤ 100 ∧ (sU f S i).1.2.len ≤ 100 ∧ (sU f S i).2.1.len ≤ 100 ∧ (sU f S i).2.2.len ≤ 100
theorem p_ends_of (T : Tx K mg) : FnA P w K mg base 9 (He.ga K "ends_of") (fun ds R => ∃ (p : Int) (_ : PC p) (f S : Pol p) (m : Nat), ds = [.curve p f.r, .lst ((List.range m).map (rowF f S))] ∧ Bd f S m ∧ R (.tup [.poly p (sU f S m).1.1.r, .poly p (sU f S m).1.2.r])) :=
  fn_ok (N := ["curve", "rows", "one", "none", "ahead", "here", "row"]) (ps := ["curve", "rows"]) (d_ends_of T) (sc_of (by decide +kernel)) (fun _ _ _ _ _ _ us hl => match us, hl with | [_, _], _ => rfl) (fun _ _ ⟨_, _, _, _, _, e, _⟩ => e ▸ rfl) fun X cg hf ds R ⟨p, hp, f, S, m, ed, hb, hR⟩ => by
    subst ed
    have bf := T.bf
    refine r_par2 2 3 cg (s_im (x_one T cg (x_cprime T cg (v_var 0))) (s_im (x_nil T cg (x_cprime T cg (v_var 0))) s_nil)) ?_
    refine r_par2 4 5 cg (s_im (v_tupD (a_d (v_var 3) (a_d (v_var 2) a_nil))) (s_im (v_tupD (a_d (v_var 2) (a_d (v_var 3) a_nil))) s_nil)) ?_
    let st : Nat → List Sl := fun i => [.im (.curve p f.r), .im (.lst ((List.range m).map (rowF f S))), .im (.poly p (1 : Pol p).r), .im (.poly p (0 : Pol p).r), .im (.tup [.poly p (sU f S i).2.1.r, .poly p (sU f S i).2.2.r]), .im (.tup [.poly p (sU f S i).1.1.r, .poly p (sU f S i).1.2.r]), .no]
    refine r_forF (xs := List.range m) (g := rowF f S) cg (it_list (v_var 1)) st (fun k _ => k + 1) 0 (.eq (.eq (.eq (.eq (.eq (.eq (.no .nil))))))) (fun n i hi => ⟨tg_name 6 cg, ?_⟩) ?_
    · obtain ⟨ei, hn⟩ := range_get hi
      subst ei
      rw [cnt_range hn]
      have ha := hb.a i hn
      obtain ⟨u1, u2, u3, u4⟩ := hb.u i (by omega)
      have m1 := Pol.mul_le (sA f S i) (sU f S i).1.1
      have m2 := Pol.mul_le (sA f S i) (sU f S i).1.2
      have hrow : ∀ {δ' : List Sl}, δ'[6]? = some (.im (rowF f S i)) → ∀ {q1 q2 q3 : Pos} {j : Nat}, EvD X δ' (.Subscript (.Name "row" q1) (.Constant (.int 0) j q2) q3) (.poly p (sA f S i).r) := fun h => v_item .t (v_var 6 (by exact cg.na rfl) h) v_int rfl
      refine r_par2 4 5 cg (s_im (v_var 5) (s_im (d := .tup [.poly p (sU f S (i + 1)).1.1.r, .poly p (sU f S (i + 1)).1.2.r]) (v_tupD (a_d (x_add T cg (x_mul T cg (hrow rfl) (v_item .t (v_var 5) v_int rfl) (by omega) (by omega)) (v_item .t (v_var 4) v_int rfl) (by omega) (by omega)) (a_d (x_add T cg (x_mul T cg (hrow rfl) (v_item .t (v_var 5) v_int rfl) (by omega) (by omega)) (v_item .t (v_var 4) v_int rfl) (by omega) (by omega)) a_nil))) s_nil)) (r_nil ?_)
      exact .eq (.eq (.eq (.eq (.eq (.eq (.no .nil))))))
    · rw [cnt, List.length_range, Nat.zero_add]
      exact r_retD (v_var 5) hR
theorem p_function_of (T : Tx K mg) : FnA P w K mg base 13 (He.ga K "function_of") (fun ds R => ∃ (p : Int) (_ : PC p) (f a b : Pol p), ds = [.curve p f.r, .tup [.poly p a.r, .poly p b.r]] ∧ f.len ≤ 9 ∧ a.len ≤ 1000 ∧ b.len ≤ 1000 ∧ R (.fn p f.r a.r b.r (1 : Pol p).r)) :=
  fn_ok (N := ["curve", "pair"]) (ps := ["curve", "pair"]) (d_function_of T) (sc_of (by decide +kernel)) (fun _ _ _ _ _ _ us hl => match us, hl with | [_, _], _ => rfl) (fun _ _ ⟨_, _, _, _, _, e, _⟩ => e ▸ rfl) fun X cg hf ds R ⟨p, hp, f, a, b, ed, lf, la, lb, hR⟩ => by
    subst ed
    have bf := T.bf
    exact r_retD (x_Function1 T cg (v_var 0) (v_item .t (v_var 1) v_int rfl) (v_item .t (v_var 1) v_int rfl) (x_one T cg (x_cprime T cg (v_var 0))) lf la lb) hR
theorem p_scaled_pair (T : Tx K mg) : FnA P w K mg base 9 (He.ga K "scaled_pair") (fun ds R => ∃ (p : Int) (_ : PC p) (a b : Pol p) (c : Int), ds = [.tup [.poly p a.r, .poly p b.r], .int c] ∧ a.len ≤ 4000 ∧ b.len ≤ 4000 ∧ 0 ≤ c ∧ c < p ∧ R (.tup [.poly p (scP c (a, b)).1.r, .poly p (scP c (a, b)).2.r])) :=
  fn_ok (N := ["pair", "residue"]) (ps := ["pair", "residue"]) (d_scaled_pair T) (sc_of (by decide +kernel)) (fun _ _ _ _ _ _ us hl => match us, hl with | [_, _], _ => rfl) (fun _ _ ⟨_, _, _, _, _, e, _⟩ => e ▸ rfl) fun X cg hf ds R ⟨p, hp, a, b, c, ed, la, lb, c0, c1, hR⟩ => by
    subst ed
    have bf := T.bf
    exact r_retD (v_tupD (a_d (x_scl T cg (v_item .t (v_var 0) v_int rfl) (v_var 1) c0 c1 la) (a_d (x_scl T cg (v_item .t (v_var 0) v_int rfl) (v_var 1) c0 c1 lb) a_nil))) hR
theorem p_product_of (T : Tx K mg) : FnA P w K mg base 9 (He.ga K "product_of") (fun ds R => ∃ (p : Int) (_ : PC p) (f a b c d : Pol p), ds = [.curve p f.r, .tup [.poly p a.r, .poly p b.r], .tup [.poly p c.r, .poly p d.r]] ∧ f.len ≤ 9 ∧ a.len ≤ 1000 ∧ b.len ≤ 1000 ∧ c.len ≤ 1000 ∧ d.len ≤ 1000 ∧ R (.tup [.poly p (prP f (a, b) (c, d)).1.r, .poly p (prP f (a, b) (c, d)).2.r])) :=
  fn_ok (N := ["curve", "one", "other", "top"]) (ps := ["curve", "one", "other"]) (d_product_of T) (sc_of (by decide +kernel)) (fun _ _ _ _ _ _ us hl => match us, hl with | [_, _, _], _ => rfl) (fun _ _ ⟨_, _, _, _, _, _, _, e, _⟩ => e ▸ rfl) fun X cg hf ds R ⟨p, hp, f, a, b, c, d, ed, lf, la, lb, lc, ld, hR⟩ => by
    subst ed
    have bf := T.bf
    have m1 := Pol.mul_le a c
    have m2 := Pol.mul_le f b
    have m3 := Pol.mul_le (f * b) d
    have m4 := Pol.mul_le a d
    have m5 := Pol.mul_le b c
    have e1 : a * c + f * b * d = (prP f (a, b) (c, d)).1 := by
      show _ = a * c + f * (b * d)
      grind
    rw [show (prP f (a, b) (c, d)).2 = a * d + b * c from rfl] at hR
    refine r_setD (d := .poly p (a * c + f * b * d).r) 3 cg (x_add T cg (x_mul T cg (v_item .t (v_var 1) v_int rfl) (v_item .t (v_var 2) v_int rfl) (by omega) (by omega)) (x_mul T cg (x_mul T cg (x_cf T cg (v_var 0)) (v_item .t (v_var 1) v_int rfl) (by omega) (by omega)) (v_item .t (v_var 2) v_int rfl) (by omega) (by omega)) (by omega) (by omega)) ?_
    rw [e1]
    exact r_retD (v_tupD (a_d (v_var 3) (a_d (x_add T cg (x_mul T cg (v_item .t (v_var 1) v_int rfl) (v_item .t (v_var 2) v_int rfl) (by omega) (by omega)) (x_mul T cg (v_item .t (v_var 1) v_int rfl) (v_item .t (v_var 2) v_int rfl) (by omega) (by omega)) (by omega) (by omega)) a_nil))) hR
end
end DL

namespace DL
open PySem PySem.Spec PyProof.Rows L2

/-! ### objects that change: their fields told anew, frozen, changed by a call, made -/
section
variable {K : PySem.W.Frag} {M0 M : List Addr} {H0 H H2 : Hp} {δ : List Sl} {σ : L2.St}
def Flds (K : PySem.W.Frag) (fs : List (Option Dt)) (vals : List (Option V)) (H : Hp) : Prop := ∀ (j : Nat) (d : Dt), fs[j]? = some (some d) → ∃ x, vals[j]? = some (some x) ∧ rep K d x H
theorem Sg.refield (g : Sg K M0 M H0 δ σ H) {i : Nat} {C : Addr × Addr × Addr} {fs fs' : List (Option Dt)} (h : δ[i]? = some (.ob C fs)) (k : ∀ vals, Flds K fs vals (hid M H) → Flds K fs' vals (hid M H)) : Sg K M0 M H0 (δ.set i (.ob C fs')) σ H := by
  refine ⟨g.ext, g.sub, g.own, g.dom, by rw [List.length_set]; exact g.len, fun j d hj => ?_, fun j es hj => ?_, fun j C' fs2 hj => ?_, fun j k dj dk hne q1 q2 => ?_⟩
  · rcases get_set hj with ⟨e, e2⟩ | ⟨e, h2'⟩
    · cases e2
    · exact g.is_im j d h2'
  · rcases get_set hj with ⟨e, e2⟩ | ⟨e, h2'⟩
    · cases e2
    · exact g.is_mu j es h2'
  · rcases get_set hj with ⟨e, e2⟩ | ⟨e, h2'⟩
    · cases e2
      subst e
      obtain ⟨a, dx, vals, k1, k2, k3, k4, k5, k6, k7, k8, k9, ku, k10⟩ := g.is_ob j C fs h
      exact ⟨a, dx, vals, k1, k2, k3, k4, k5, k6, k7, k8, k9, ku, k vals k10⟩
    · exact g.is_ob j C' fs2 h2'
  · rcases get_set q1 with ⟨e, e2⟩ | ⟨e, h3'⟩
    · cases e2
    · rcases get_set q2 with ⟨e', e2⟩ | ⟨e', h4'⟩
      · cases e2
      · exact g.apart j k dj dk hne h3' h4'
/-- the other objects of δ stand elsewhere -/
def Apt (δ : List Sl) (i : Nat) (y dy : Addr) : Prop := ∀ k C' fs', k ≠ i → δ[k]? = some (Sl.ob C' fs') → C'.2.1 ≠ y ∧ C'.2.1 ≠ dy ∧ C'.2.2 ≠ y ∧ C'.2.2 ≠ dy
theorem slt_full {a C dx : Addr} {vals : List (Option V)} {fs : List (Option Dt)} {H' : Hp} (h : SlX.Slt H a C dx vals) (hf : Flds K fs vals H') (ne : ∃ d0, fs[0]? = some (some d0)) : H a = some (SlX.SlO a C dx vals) ∧ H dx = some (.xd []) := by
  rcases h with ⟨_, e⟩ | h
  · obtain ⟨d0, h0⟩ := ne
    obtain ⟨v, hv, _⟩ := hf 0 d0 h0
    rw [e] at hv
    cases hv
  · exact h
theorem Sg.freezeO (g : Sg K M0 M H0 δ σ H) {i : Nat} {C : Addr × Addr × Addr} {fs : List (Option Dt)} {d : Dt} (h : δ[i]? = some (.ob C fs)) (sl : Seal K C.1 fs d) (ne : ∃ d0, fs[0]? = some (some d0)) (ap : Apt δ i C.2.1 C.2.2) : ∃ M', Sg K M0 M' H0 (δ.set i (.im d)) σ H := by
  obtain ⟨a, dx, vals, k1, k2, k3, k4, k5, k6, k7, k8, ⟨⟨ea, ed⟩, k9⟩, ku, k10⟩ := g.is_ob i C fs h
  obtain ⟨q1, q2⟩ := slt_full k9 k10 ne
  let M' := M.filter fun z => decide (z ≠ a ∧ z ≠ dx)
  have hm : ∀ z, z ∈ M' ↔ z ∈ M ∧ z ≠ a ∧ z ≠ dx := fun z => by simp [M', List.mem_filter]
  have e1 : Ex (hid M H) (hid M' H) := hid_sub fun a ha => ((hm a).mp ha).1
  refine ⟨M', g.ext, fun z hz => (hm z).mpr ⟨g.sub z hz, fun q => k3 (q ▸ hz), fun q => k4 (q ▸ hz)⟩, fun z hz => g.own z ((hm z).mp hz).1, fun z hz => g.dom z ((hm z).mp hz).1, by rw [List.length_set]; exact g.len, fun j d' hj => ?_, fun j es hj => ?_, fun j C' fs2 hj => ?_, fun j k dj dk hne q1 q2 => ?_⟩
  · rcases get_set hj with ⟨e, e2⟩ | ⟨e, h2'⟩
    · cases e2
      refine ⟨.ref a, by rw [e]; exact k8, sl a dx vals _ ?_ ?_ fun j d hj => ?_⟩
      · rw [hid_at fun z => ((hm a).mp z).2.1 rfl]; exact q1
      · rw [hid_at fun z => ((hm dx).mp z).2.2 rfl]; exact q2
      · obtain ⟨x, hx, hr⟩ := k10 j d hj
        exact ⟨x, hx, rep_mono e1 hr⟩
    · obtain ⟨v, h3', h4'⟩ := g.is_im j d' h2'
      exact ⟨v, h3', rep_mono e1 h4'⟩
  · rcases get_set hj with ⟨e, e2⟩ | ⟨e, h2'⟩
    · cases e2
    · obtain ⟨l', xs', j1, j0, j2, j3, j4, j5⟩ := g.is_mu j es h2'
      exact ⟨l', xs', (hm l').mpr ⟨j1, fun z => slt_nl k9 j4 z.symm, fun z => nl_ne ku j4 z.symm⟩, j0, j2, j3, j4, reps_mono e1 j5⟩
  · rcases get_set hj with ⟨e, e2⟩ | ⟨e, h2'⟩
    · cases e2
    · obtain ⟨a', dx', vals', j1, j2, j3, j4, j5, j6, j7, j8, ⟨⟨ea', ed'⟩, j9⟩, ju, j10⟩ := g.is_ob j C' fs2 h2'
      obtain ⟨t1, t2, t3, t4⟩ := ap j C' fs2 e h2'
      rw [← ea', ← ea] at t1
      rw [← ea', ← ed] at t2
      rw [← ed', ← ea] at t3
      rw [← ed', ← ed] at t4
      refine ⟨a', dx', vals', (hm a').mpr ⟨j1, t1, t2⟩, (hm dx').mpr ⟨j2, t3, t4⟩, j3, j4, j5, j6, j7, j8, ⟨⟨ea', ed'⟩, j9⟩, ju, fun j d hj => ?_⟩
      obtain ⟨x, hx, hr⟩ := j10 j d hj
      exact ⟨x, hx, rep_mono e1 hr⟩
  · rcases get_set q1 with ⟨e, e2⟩ | ⟨e, h3'⟩
    · cases e2
    · rcases get_set q2 with ⟨e', e2⟩ | ⟨e', h4'⟩
      · cases e2
      · exact g.apart j k dj dk hne h3' h4'
theorem hid2_at {y dy a : Addr} (h1 : a ≠ y) (h2 : a ≠ dy) : hid [y, dy] H a = H a := hid_at fun z => by
  rcases List.mem_cons.mp z with q | q
  · exact h1 q
  · exact h2 (List.mem_singleton.mp q)
theorem Sg.callM (g : Sg K M0 M H0 δ σ H) {i : Nat} {C : Addr × Addr × Addr} {fs fs2 : List (Option Dt)} {vals2 : List (Option V)} (h : δ[i]? = some (.ob C fs)) (ex : Ex (hid [C.2.1, C.2.2] H) H2) (h1 : H2 C.2.1 = some (SlX.SlO C.2.1 C.1 C.2.2 vals2)) (h2 : H2 C.2.2 = some (.xd [])) (hf : Flds K fs2 vals2 (hid M H2)) (ap : Apt δ i C.2.1 C.2.2) : Sg K M0 M H0 (δ.set i (.ob C fs2)) σ H2 := by
  obtain ⟨a, dx, vals, k1, k2, k3, k4, k5, k6, k7, k8, ⟨⟨ea, ed⟩, k9⟩, ku, k10⟩ := g.is_ob i C fs h
  subst ea ed
  have keep : ∀ {z : Addr} {o : HO}, z ≠ C.2.1 → z ≠ C.2.2 → H z = some o → H2 z = some o := fun n1 n2 q => ex _ _ (by rw [hid2_at n1 n2]; exact q)
  have e1 : Ex (hid M H) (hid M H2) := fun z o q => by
    obtain ⟨q1, q2⟩ := hid_out q
    rw [hid_at q1]
    exact keep (fun e => q1 (e ▸ k1)) (fun e => q1 (e ▸ k2)) q2
  refine ⟨fun z o q => keep (fun e => by rw [e, k5] at q; cases q) (fun e => by rw [e, k6] at q; cases q) (g.ext z o q), g.sub, g.own, fun l hl q => ?_, by rw [List.length_set]; exact g.len, fun j d' hj => ?_, fun j es hj => ?_, fun j C' fs3 hj => ?_, fun j k dj dk hne q1 q2 => ?_⟩
  · by_cases n1 : l = C.2.1
    · rw [n1, h1] at q; cases q
    · by_cases n2 : l = C.2.2
      · rw [n2, h2] at q; cases q
      · cases e : H l with
        | none => exact g.dom l hl e
        | some o => rw [keep n1 n2 e] at q; cases q
  · rcases get_set hj with ⟨e, e2⟩ | ⟨e, h2'⟩
    · cases e2
    · obtain ⟨v, h3', h4'⟩ := g.is_im j d' h2'
      exact ⟨v, h3', rep_mono e1 h4'⟩
  · rcases get_set hj with ⟨e, e2⟩ | ⟨e, h2'⟩
    · cases e2
    · obtain ⟨l', xs', j1, j0, j2, j3, j4, j5⟩ := g.is_mu j es h2'
      exact ⟨l', xs', j1, j0, j2, j3, keep (fun z => slt_nl k9 j4 z.symm) (fun z => nl_ne ku j4 z.symm) j4, reps_mono e1 j5⟩
  · rcases get_set hj with ⟨e, e2⟩ | ⟨e, h2'⟩
    · cases e2
      subst e
      exact ⟨C.2.1, C.2.2, vals2, k1, k2, k3, k4, k5, k6, k7, k8, ⟨⟨rfl, rfl⟩, .inr ⟨h1, h2⟩⟩, ⟨_, h2, fun xs z => by cases z⟩, hf⟩
    · obtain ⟨a', dx', vals', j1, j2, j3, j4, j5, j6, j7, j8, ⟨⟨ea', ed'⟩, j9⟩, ⟨u, ju1, ju2⟩, j10⟩ := g.is_ob j C' fs3 h2'
      obtain ⟨t1, t2, t3, t4⟩ := ap j C' fs3 e h2'
      subst ea' ed'
      refine ⟨C'.2.1, C'.2.2, vals', j1, j2, j3, j4, j5, j6, j7, j8, ⟨⟨rfl, rfl⟩, ?_⟩, ⟨u, keep t3 t4 ju1, ju2⟩, fun j d hj => ?_⟩
      · rcases j9 with ⟨j9, j9'⟩ | ⟨j9, j9'⟩
        · exact .inl ⟨keep t1 t2 j9, j9'⟩
        · exact .inr ⟨keep t1 t2 j9, keep t3 t4 j9'⟩
      · obtain ⟨x, hx, hr⟩ := j10 j d hj
        exact ⟨x, hx, rep_mono e1 hr⟩
  · rcases get_set q1 with ⟨e, e2⟩ | ⟨e, h3'⟩
    · cases e2
    · rcases get_set q2 with ⟨e', e2⟩ | ⟨e', h4'⟩
      · cases e2
      · exact g.apart j k dj dk hne h3' h4'
theorem Sg.push_ob (g : Sg K M0 M H0 δ σ H) {C y dy : Addr} {fs : List (Option Dt)} {vals : List (Option V)} (hy : H y = none) (hdy : H dy = none) (ne : dy ≠ y) (ex : Ex H H2) (hs : SlX.Slt H2 y C dy vals) (n0 : ∃ d0, fs[0]? = some (some d0)) (hf : Flds K fs vals (hid (y :: dy :: M) H2)) :
    Sg K M0 (y :: dy :: M) H0 (δ ++ [.ob (C, y, dy) fs]) (σ ++ [some (.ref y)]) H2 := by
  obtain ⟨q1, q2⟩ := slt_full hs hf n0
  have yM : y ∉ M := fun z => g.dom y z hy
  have dM : dy ∉ M := fun z => g.dom dy z hdy
  have e1 : Ex (hid M H) (hid (y :: dy :: M) H2) := fun z o q => by
    obtain ⟨h1, h2⟩ := hid_out q
    rw [hid_at]
    · exact ex _ _ h2
    · intro hz
      rcases List.mem_cons.mp hz with e | hz
      · rw [e, hy] at h2; cases h2
      · rcases List.mem_cons.mp hz with e | hz
        · rw [e, hdy] at h2; cases h2
        · exact h1 hz
  refine ⟨g.ext.trans ex, fun l hl => List.mem_cons_of_mem _ (List.mem_cons_of_mem _ (g.sub l hl)), fun l hl => ?_, fun l hl z => ?_, by simp [g.len], fun i d' h => ?_, fun i ds h => ?_, fun i C' fs' h => ?_, fun i j di dj nij h1 h2 => ?_⟩
  · rcases List.mem_cons.mp hl with e | hl
    · exact .inr (e ▸ g.ext.back hy)
    · rcases List.mem_cons.mp hl with e | hl
      · exact .inr (e ▸ g.ext.back hdy)
      · exact g.own l hl
  · rcases List.mem_cons.mp hl with e | hl
    · rw [e, q1] at z; cases z
    · rcases List.mem_cons.mp hl with e | hl
      · rw [e, q2] at z; cases z
      · exact g.dom l hl (ex.back z)
  · rcases sig_push (o := some (V.ref y)) g.len h with ⟨h1, h2, h3⟩ | ⟨h1, h2, h3⟩
    · rw [h3]
      obtain ⟨v, a1, a2⟩ := g.is_im i d' h2
      exact ⟨v, a1, rep_mono e1 a2⟩
    · cases h2
  · rcases sig_push (o := some (V.ref y)) g.len h with ⟨h1, h2, h3⟩ | ⟨h1, h2, h3⟩
    · rw [h3]
      obtain ⟨l', xs', j1, j0, j2, j3, j4, j5⟩ := g.is_mu i ds h2
      exact ⟨l', xs', List.mem_cons_of_mem _ (List.mem_cons_of_mem _ j1), j0, j2, j3, ex _ _ j4, reps_mono e1 j5⟩
    · cases h2
  · rcases sig_push (o := some (V.ref y)) g.len h with ⟨h1, h2, h3⟩ | ⟨h1, h2, h3⟩
    · rw [h3]
      obtain ⟨a', dx', vals', j1, j2, j3, j4, j5, j6, j7, j8, j9, ⟨u, ju1, ju2⟩, j10⟩ := g.is_ob i C' fs' h2
      refine ⟨a', dx', vals', List.mem_cons_of_mem _ (List.mem_cons_of_mem _ j1), List.mem_cons_of_mem _ (List.mem_cons_of_mem _ j2), j3, j4, j5, j6, j7, j8, sltC_keep ex j9, ⟨u, ex _ _ ju1, ju2⟩, fun j d hj => ?_⟩
      obtain ⟨x, hx, hr⟩ := j10 j d hj
      exact ⟨x, hx, rep_mono e1 hr⟩
    · cases h2
      rw [h3]
      exact ⟨y, dy, vals, List.mem_cons_self, List.mem_cons_of_mem _ List.mem_cons_self, fun z => yM (g.sub _ z), fun z => dM (g.sub _ z), g.ext.back hy, g.ext.back hdy, ne, rfl, ⟨⟨rfl, rfl⟩, hs⟩, ⟨_, q2, fun xs z => by cases z⟩, hf⟩
  · rcases sig_push (o := some (V.ref y)) g.len h1 with ⟨a1, a2, a3⟩ | ⟨a1, a2, a3⟩
    · rcases sig_push (o := some (V.ref y)) g.len h2 with ⟨b1, b2, b3⟩ | ⟨b1, b2, b3⟩
      · rw [a3, b3]
        exact g.apart i j di dj nij a2 b2
      · cases b2
    · cases a2
end
end DL

namespace DL
open PySem PySem.Spec PyProof.Rows L2

/-! ### blocks with any ends -/
def RunG (X : Cx) (δ : List Sl) (st : List Stmt) (G : List Addr → Hp → Ends) : Prop := ∀ M0 M H0 σ H, Sg X.K M0 M H0 δ σ H → tes X st (G M0 H0) σ H
section
variable {X : Cx} {δ : List Sl} {a b c e o : Expr} {es : List Expr} {pos pos' p : Pos} {R : Dt → Prop} {x fl : Str} {d : Dt} {rest : List Stmt} {G : List Addr → Hp → Ends} {C : Addr × Addr × Addr} {fs : List (Option Dt)}
variable {P : Program} {w : World} {K : PySem.W.Frag} {mg : Str → Option Value} {base : Heap} {k n j : Nat} {N : List Str} {sc : Scope} {pr : Addr}
theorem g_of {st : Stmt} {t : TS} (hs : PS X st t) (h : ∀ M0 M H0 σ H, Sg X.K M0 M H0 δ σ H → t { G M0 H0 with nx := tes X rest (G M0 H0) } σ H) : RunG X δ (st :: rest) G := fun M0 M H0 σ H g => tes_of (pss_cons hs pss_tes) (h M0 M H0 σ H g)
theorem g_set (n : Nat) (cg : Cg P w K mg base k N sc X) (h : EvE X δ e R) (kk : ∀ d, R d → RunG X (δ.set n (.im d)) rest G) (hx : Nm X n x := by first | exact Cg.nmL (by assumption) rfl rfl | exact Cg.nmC (by assumption) (by assumption) rfl rfl) {px : Pos} (hs : swapsWith e (some (.Name x px)) pos.line X.env = pure false := by rfl) : RunG X δ (.Assign [.Name x px] e pos :: rest) G :=
  g_of (ps_set (cg.nm ▸ cg.nd) hx.at_ hx.loc pe_tev hs hx.fn) fun M0 M H0 σ H g => tev_mono (h M0 M H0 σ H g) fun v H2 ⟨e2, d, rd, q⟩ => kk d rd M0 M H0 _ H2 ((g.grow e2).set_im n q)
theorem g_setD (n : Nat) (cg : Cg P w K mg base k N sc X) (h : EvD X δ e d) (kk : RunG X (δ.set n (.im d)) rest G) (hx : Nm X n x := by first | exact Cg.nmL (by assumption) rfl rfl | exact Cg.nmC (by assumption) (by assumption) rfl rfl) {px : Pos} (hs : swapsWith e (some (.Name x px)) pos.line X.env = pure false := by rfl) : RunG X δ (.Assign [.Name x px] e pos :: rest) G :=
  g_set n cg h (fun _ e => e ▸ kk) hx hs
theorem g_fld (n : Nat) (sc1 : SlX.SCls X.K C.1) (sl : SlX.Slot1 X.K C.1 fl pr j) (he : EvE X δ e R) (hd : δ[n]? = some (.ob C fs)) (kk : ∀ d, R d → RunG X (δ.set n (.ob C (putF fs j d))) rest G) (so : soleOb δ n = true := by rfl) (hN : X.N[n]? = some x := by first | rfl | exact Cg.na (by assumption) rfl)
    (hv : Vis X.env.scope x := by first | exact Or.inl rfl | exact Or.inr (Or.inl rfl) | exact Or.inr (Or.inr rfl) | exact Cg.vis (by assumption) (by first | exact Or.inl rfl | exact Or.inr (Or.inl rfl) | exact Or.inr (Or.inr rfl)))
    (h1 : (x == ("__debug__" : Str)) = false := by decide) (h2 : (x == ("__classdict__" : Str)) = false := by decide) (hs : swapsWith e (some (.Attribute (.Name x p) fl pos')) pos.line X.env = pure false := by rfl) : RunG X δ (.Assign [.Attribute (.Name x p) fl pos'] e pos :: rest) G :=
  g_of (SlX.ps_sl (pe_var hN hv h1 h2) pe_tev hs) fun M0 M H0 σ H g => tev_mono (he M0 M H0 σ H g) fun v H1 ⟨e1, d, rd, r⟩ => by
    have g1 := g.grow e1
    obtain ⟨a, dx, vals, m1, m2, n1, n2, k1, k2, ne, hσ, ⟨⟨ea, ed⟩, hs⟩, hu, hfl⟩ := g1.is_ob n C fs hd
    exact ⟨.ref a, hσ, a, C.1, dx, pr, vals, j, rfl, hs, sc1, sl, kk d rd M0 M H0 σ _ (g1.setF hd so hσ hs ed hfl j r)⟩
theorem g_ret (h : ∀ M0 M H0 σ H, Sg X.K M0 M H0 δ σ H → tev X e σ H fun v H2 => (G M0 H0).rt v H2) : RunG X δ (.Return (some e) pos :: rest) G := fun M0 M H0 σ H g => tes_of (pss_cons (ps_ret pe_tev) pss_never) (h M0 M H0 σ H g)
end
/-! ### a method that changes its object -/
/-- from the fields before and the arguments: the fields behind and the answer -/
abbrev Sm := List (Option Dt) → List Dt → (List (Option Dt) → Dt → Prop) → Prop
def spM (K : PySem.W.Frag) (C : Addr) (S : Sm) : Sp := fun vs H Q _ => ∃ M b db xs vals fs ds RF, vs = V.ref b :: xs ∧ b ∈ M ∧ db ∈ M ∧ db ≠ b ∧ (∀ l ∈ M, H l ≠ none) ∧ H b = some (SlX.SlO b C db vals) ∧ H db = some (.xd []) ∧ Flds K fs vals (hid M H) ∧ reps K ds xs (hid M H) ∧ S fs ds RF ∧
  ∀ fs2 d v vals2 H2, RF fs2 d → Ex (hid [b, db] H) H2 → H2 b = some (SlX.SlO b C db vals2) → H2 db = some (.xd []) → Flds K fs2 vals2 (hid M H2) → rep K d v (hid M H2) → Q v H2
def endM (K : PySem.W.Frag) (C : Addr × Addr × Addr) (RF : List (Option Dt) → Dt → Prop) : List Addr → Hp → Ends := fun M0 H0 =>
  { nx := fun _ _ => False, bk := fun _ _ => False, ct := fun _ _ => False, rt := fun v H => ∃ d M δ σ fs2, δ[0]? = some (Sl.ob C fs2) ∧ (∃ d0, fs2[0]? = some (some d0)) ∧ RF fs2 d ∧ Sg K M0 M H0 δ σ H ∧ rep K d v (hid M H) }
section
variable {P : Program} {w : World} {K : PySem.W.Frag} {mg : Str → Option Value} {base : Heap} {k n : Nat} {N ps : List Str} {scope : Scope} {x qual : Str} {params : Arguments} {body : List Stmt} {f : Addr}
theorem fnM_ok {C : Addr} {S : Sm} (F : ∃ fd, FunD K x qual params body scope [] [] f fd) (Sc : FnScope N ps scope) (bind : BindP x qual params body scope ps) (len : ∀ fs ds RF, S fs ds RF → ds.length + 1 = ps.length)
    (hb : ∀ X, Cg P w K mg base n N scope X → (∀ x, X.fn x = true) → ∀ fs ds RF, S fs ds RF → ∀ b db, RunG X (startS N (.ob (C, b, db) fs :: ds.map .im)) body (endM K (C, b, db) RF)) : FnR P w K mg base CX0 (n + 1) f (spM K C S) := by
  obtain ⟨fd, F⟩ := F
  have len2 : ∀ vs H Q E, spM K C S vs H Q E → vs.length = ps.length := fun vs H Q E ⟨M, b, db, xs, vals, fs, ds, RF, e, _, _, _, _, _, _, _, r, s, _⟩ => by
    rw [e, List.length_cons, ← reps_len r]
    exact len fs ds RF s
  have ok : FnOk P w K mg base CX0 (n + 1) f fd ps (spM K C S) := F.ok Sc len2 fun cdv A outer s H vs Q E hr ⟨M, b, db, xs, vals, fs, ds, RF, ev, hbm, hdm, ne, dom, h1, h2, hf, r, hs, hq⟩ => by
    have cg : Cg P w K mg base n N scope (cxOf CX0 P w K mg base N qual scope f cdv A outer s H E).nox := ⟨rfl, rfl, rfl, rfl, rfl, rfl, rfl, Sc.nd, hr, rfl, rfl⟩
    refine ⟨_, PSs.nox (t := tes (cxOf CX0 P w K mg base N qual scope f cdv A outer s H E).nox body) pss_tes, ?_⟩
    subst ev
    let M0 := M.filter fun z => decide (z ≠ b ∧ z ≠ db)
    have hm : ∀ z, z ∈ M0 ↔ z ∈ M ∧ z ≠ b ∧ z ≠ db := fun z => by simp [M0, List.mem_filter]
    have hb0 : hid [b, db] H b = none := by unfold hid; rw [if_pos List.mem_cons_self]
    have hd0 : hid [b, db] H db = none := by unfold hid; rw [if_pos (List.mem_cons_of_mem _ List.mem_cons_self)]
    have g0 : Sg K M0 M (hid [b, db] H) [.ob (C, b, db) fs] [some (.ref b)] H := by
      refine ⟨hid_ex, fun l hl => ((hm l).mp hl).1, fun l hl => ?_, dom, rfl, fun i d h => ?_, fun i d h => ?_, fun i C' fs' h => ?_, fun i j di dj ne2 q1 q2 => ?_⟩
      · by_cases e1 : l = b
        · exact .inr (e1 ▸ hb0)
        · by_cases e2 : l = db
          · exact .inr (e2 ▸ hd0)
          · exact .inl ((hm l).mpr ⟨hl, e1, e2⟩)
      · match i, h with
        | 0, h => simp at h
        | i + 1, h => simp at h
      · match i, h with
        | 0, h => simp at h
        | i + 1, h => simp at h
      · match i, h with
        | 0, h =>
          simp at h
          obtain ⟨rfl, rfl⟩ := h
          exact ⟨b, db, vals, hbm, hdm, fun z => ((hm b).mp z).2.1 rfl, fun z => ((hm db).mp z).2.2 rfl, hb0, hd0, ne, rfl, ⟨⟨rfl, rfl⟩, .inr ⟨h1, h2⟩⟩, ⟨_, h2, fun xs z => by cases z⟩, hf⟩
        | i + 1, h => simp at h
      · match i, q1 with
        | 0, q1 => simp at q1
        | i + 1, q1 => simp at q1
    have g1 := (Sg.pushes g0 r g0).pads (N.length - (ds.length + 1))
    have es : startS N (.ob (C, b, db) fs :: ds.map .im) = [.ob (C, b, db) fs] ++ ds.map .im ++ List.replicate (N.length - (ds.length + 1)) .no := by
      unfold startS
      rw [List.length_cons, List.length_map]
      rfl
    have eo : start N (.ref b :: xs) = [some (.ref b)] ++ xs.map some ++ List.replicate (N.length - (ds.length + 1)) none := by
      unfold L2.start
      rw [List.length_cons, reps_len r]
      rfl
    have run := hb _ cg (fun _ => rfl) fs ds RF hs b db
    rw [es] at run
    rw [eo]
    refine tes_mono (run M0 M (hid [b, db] H) _ _ g1) (fun _ _ z => z.elim) (fun v H' ⟨d, M', δ', σ', fs2, q0, q1, rf, g, rv⟩ => ?_) (fun _ _ z => z.elim) fun _ _ z => z.elim
    obtain ⟨a, dx2, vals2, m1, m2, n1, n2, k1, k2, ne2, hσ, ⟨⟨ea, ed⟩, hsl⟩, hu, hf2⟩ := g.is_ob 0 (C, b, db) fs2 q0
    obtain rfl : a = b := ea
    obtain rfl : dx2 = db := ed
    obtain ⟨w1, w2⟩ := slt_full hsl hf2 q1
    have sub : ∀ l ∈ M, l ∈ M' := fun l hl => by
      by_cases e1 : l = a
      · exact e1 ▸ m1
      · by_cases e2 : l = dx2
        · exact e2 ▸ m2
        · exact g.sub l ((hm l).mpr ⟨hl, e1, e2⟩)
    exact hq fs2 d v vals2 H' rf g.ext w1 w2 (fun j d hj => by
      obtain ⟨v, hv, rv⟩ := hf2 j d hj
      exact ⟨v, hv, rep_mono (hid_sub sub) rv⟩) (rep_mono (hid_sub sub) rv)
  obtain ⟨oc, od, dV, kV, doc, pm, an, cdv, ct, osl, efd, lk, hcd, hD, hK⟩ := F.ex
  have ed : dV = .none := by
    rcases hD with ⟨_, e⟩ | ⟨e, _⟩
    · exact e
    · exact absurd rfl e
  subst efd ed
  have raw := ok.raw (ds := []) (dvs := []) (Binds.all (bind kV doc pm an cdv ct)) .nil
  exact raw.imp fun vs H Q E h => by rw [List.append_nil]; exact h
end
end DL

namespace DL
open PySem PySem.Spec PyProof.Rows L2
/-- the chain at i: bounds -/
structure ChB {p : Int} [PC p] (f S : Pol p) (i : Nat) : Prop where
  fl : f.len ≤ 9
  sl : S.len ≤ 10
  pl : (sP f S i).len ≤ 10
  ql : (sQ f S i).len ≤ 10
  q0 : sQ f S i ≠ 0
  al : (sA f S i).len ≤ 10
  p1 : (sP f S (i + 1)).len ≤ 10
theorem ch_b {p : Int} [hp : PC p] {f : Pol p} {n : Nat} {s : Int} (h : CD p f n s) (i : Nat) : ChB f (rootS f n s h.hs) i := by
  have F := h.fd
  have n3 : 1 ≤ n ∧ n ≤ 3 := by have := h.hn; omega
  have st := stp_all F i
  have ch := ch_all F i
  have hl := h.hl
  have q1 := Pol.pos_len ch.q0
  have ql := ch.ql
  have sl := F.top.le
  have pl : (sP f (rootS f n s h.hs) i).len ≤ 10 := by
    cases i with
    | zero =>
      show (0 : Pol p).len ≤ 10
      rw [(Pol.len0 (0 : Pol p)).mpr rfl]
      omega
    | succ i =>
      exact Nat.le_trans (show (sP f (rootS f n s h.hs) (i + 1)).len ≤ n + 1 from (stp_all F i).pt.le) (by omega)
  refine ⟨by omega, by omega, pl, by omega, ch.q0, ?_, ?_⟩
  · have := st.al
    show (nA _ _ _).len ≤ 10
    omega
  · exact Nat.le_trans (show (sP f (rootS f n s h.hs) (i + 1)).len ≤ n + 1 from st.pt.le) (by omega)
def fS {p : Int} [PC p] (f S : Pol p) (i : Nat) : List (Option Dt) := [some (.poly p f.r), some (.poly p (sP f S i).r), some (.poly p (sQ f S i).r), some (.poly p S.r)]
section
variable {P : Program} {w : World} {K : PySem.W.Frag} {mg : Str → Option Value} {base : Heap}
theorem seal_steps {p : Int} [PC p] {f S : Pol p} {i : Nat} : Seal K (cS K) (fS f S i) (.steps p f.r (sP f S i).r (sQ f S i).r S.r) := fun a dx vals H q1 q2 q3 =>
  rep_steps.mpr (seal_obj (.cons (fun _ _ h => rep_poly.mp h) (.cons (fun _ _ h => rep_poly.mp h) (.cons (fun _ _ h => rep_poly.mp h) (.cons (fun _ _ h => rep_poly.mp h) .nil)))) q1 q2 q3)
def I_steps : Si := fun ds RF => ∃ (p : Int) (_ : PC p) (f : Pol p) (n : Nat) (s : Int) (h : CD p f n s), ds = [.curve p f.r] ∧ RF (fS f (rootS f n s h.hs) 0)
theorem p_Steps_init (T : Tx K mg) : FnR P w K mg base CX0 8 (He.ma K (cS K) "__init__") (spI K (cS K) I_steps) :=
  fnI_ok (N := ["self", "curve"]) (ps := ["self", "curve"]) (d_Steps___init__ T) (sc_of (by decide +kernel)) (fun _ _ _ _ _ _ us hl => match us, hl with | [_, _], _ => rfl) (fun _ _ ⟨_, _, _, _, _, _, e, _⟩ => e ▸ rfl) fun X cg hf ds RF ⟨p, hp, f, n, s, h, e, hR⟩ ad dx => by
    subst e
    have bf := T.bf
    have fr := cg.fr
    refine r_fld 0 (C := (cS K, ad, dx)) (R := is_ (.poly p f.r)) (by rw [fr]; exact sc_Steps T) (by rw [fr]; exact sl_Steps_own_f T) (x_cf T cg (v_var 1)) rfl fun d hd => ?_
    cases hd
    refine r_fld 0 (C := (cS K, ad, dx)) (R := is_ (.poly p (rootS f n s h.hs).r)) (by rw [fr]; exact sc_Steps T) (by rw [fr]; exact sl_Steps_own_root T) (v_fn cg (p_root_in T) (d_root_in T) (g_root_in T) (a_d (v_var 1) a_nil) ⟨p, hp, f, n, s, h, rfl, rfl⟩) rfl fun d hd => ?_
    cases hd
    refine r_fld 0 (C := (cS K, ad, dx)) (R := is_ (.poly p (0 : Pol p).r)) (by rw [fr]; exact sc_Steps T) (by rw [fr]; exact sl_Steps_own_p T) (x_nil T cg (x_cprime T cg (v_var 1))) rfl fun d hd => ?_
    cases hd
    refine r_fld 0 (C := (cS K, ad, dx)) (R := is_ (.poly p (1 : Pol p).r)) (by rw [fr]; exact sc_Steps T) (by rw [fr]; exact sl_Steps_own_q T) (x_one T cg (x_cprime T cg (v_var 1))) rfl fun d hd => ?_
    cases hd
    refine r_nil ⟨_, _, rfl, ?_⟩
    simp only [putF, List.length_cons, List.length_nil, List.nil_append, List.cons_append, Nat.zero_add, Nat.reduceAdd, Nat.reduceSub, List.replicate_succ, List.replicate_zero, List.set_cons_zero, List.set_cons_succ, List.length_set, List.append_nil]
    exact hR
def S_go : Sm := fun fs ds RF => ∃ (p : Int) (_ : PC p) (f S : Pol p) (i : Nat), fs = fS f S i ∧ ds = [] ∧ ChB f S i ∧ RF (fS f S (i + 1)) (rowF f S i)
theorem p_go_on (T : Tx K mg) : FnR P w K mg base CX0 9 (He.ma K (cS K) "go_on") (spM K (cS K) S_go) :=
  fnM_ok (N := ["self", "row"]) (ps := ["self"]) (d_Steps_go_on T) (sc_of (by decide +kernel)) (fun _ _ _ _ _ _ us hl => match us, hl with | [_], _ => rfl) (fun _ _ _ ⟨_, _, _, _, _, _, e, _⟩ => e ▸ rfl) fun X cg hf fs ds RF ⟨p, hp, f, S, i, efs, eds, hb, hR⟩ b db => by
    subst efs eds
    have bf := T.bf
    have fr := cg.fr
    obtain ⟨fl, sl, pl, ql, q0, al, p1⟩ := hb
    have m1 := Pol.mul_le (sA f S i) (sQ f S i)
    have m2 := Pol.add_len (sP f S i) S pl sl
    have m3 := Pol.mul_le (sP f S (i + 1)) (sP f S (i + 1))
    have m4 := Pol.sub_len f (sP f S (i + 1) * sP f S (i + 1)) (n := 100) (by omega) (by omega)
    have s0 : ∀ {fs : List (Option Dt)} {δ : List Sl} {d : Dt} {px pos : Pos}, δ[0]? = some (Sl.ob (cS K, b, db) fs) → fs[0]? = some (some d) → EvD X δ (.Attribute (.Name "self" px) "own_f" pos) d := fun h1 h2 => v_self (C := (cS K, b, db)) (j := 0) 0 (by rw [fr]; exact sc_Steps T) (by rw [fr]; exact sl_Steps_own_f T) h1 h2
    have s1 : ∀ {fs : List (Option Dt)} {δ : List Sl} {d : Dt} {px pos : Pos}, δ[0]? = some (Sl.ob (cS K, b, db) fs) → fs[1]? = some (some d) → EvD X δ (.Attribute (.Name "self" px) "own_p" pos) d := fun h1 h2 => v_self (C := (cS K, b, db)) (j := 1) 0 (by rw [fr]; exact sc_Steps T) (by rw [fr]; exact sl_Steps_own_p T) h1 h2
    have s2 : ∀ {fs : List (Option Dt)} {δ : List Sl} {d : Dt} {px pos : Pos}, δ[0]? = some (Sl.ob (cS K, b, db) fs) → fs[2]? = some (some d) → EvD X δ (.Attribute (.Name "self" px) "own_q" pos) d := fun h1 h2 => v_self (C := (cS K, b, db)) (j := 2) 0 (by rw [fr]; exact sc_Steps T) (by rw [fr]; exact sl_Steps_own_q T) h1 h2
    have s3 : ∀ {fs : List (Option Dt)} {δ : List Sl} {d : Dt} {px pos : Pos}, δ[0]? = some (Sl.ob (cS K, b, db) fs) → fs[3]? = some (some d) → EvD X δ (.Attribute (.Name "self" px) "own_root" pos) d := fun h1 h2 => v_self (C := (cS K, b, db)) (j := 3) 0 (by rw [fr]; exact sc_Steps T) (by rw [fr]; exact sl_Steps_own_root T) h1 h2
    refine g_setD (d := rowF f S i) 1 cg (v_tupD (a_d (x_quo T cg (x_add T cg (s1 rfl rfl) (s3 rfl rfl) (by omega) (by omega)) (s2 rfl rfl) (by omega) (by omega) q0) (a_d (s1 rfl rfl) (a_d (s2 rfl rfl) a_nil)))) ?_
    refine g_fld 0 (C := (cS K, b, db)) (R := is_ (.poly p (sP f S (i + 1)).r)) (by rw [fr]; exact sc_Steps T) (by rw [fr]; exact sl_Steps_own_p T) (x_sub (u := sA f S i * sQ f S i) (v := sP f S i) T cg (x_mul T cg (v_item .t (v_var 1) v_int rfl) (s2 rfl rfl) (by omega) (by omega)) (s1 rfl rfl) (by omega) (by omega)) rfl fun d hd => ?_
    cases hd
    refine g_fld 0 (C := (cS K, b, db)) (R := is_ (.poly p (sQ f S (i + 1)).r)) (by rw [fr]; exact sc_Steps T) (by rw [fr]; exact sl_Steps_own_q T) (x_quo (u := f - sP f S (i + 1) * sP f S (i + 1)) (v := sQ f S i) T cg (x_sub T cg (s0 rfl rfl) (x_mul T cg (s1 rfl rfl) (s1 rfl rfl) (by omega) (by omega)) (by omega) (by omega)) (s2 rfl rfl) (by omega) (by omega) q0) rfl fun d hd => ?_
    cases hd
    refine g_ret fun M0 M H0 σ H g => tev_mono ((v_var 1 (d := rowF f S i)) M0 M H0 σ H g) fun v H2 ⟨e2, d, ed, q⟩ => ?_
    cases ed
    refine ⟨rowF f S i, M, _, σ, fS f S (i + 1), ?_, ⟨_, rfl⟩, hR, fr ▸ g.grow e2, fr ▸ q⟩
    simp only [putF, fS, List.length_cons, List.length_nil, List.nil_append, List.cons_append, Nat.zero_add, Nat.reduceAdd, Nat.reduceSub, List.replicate_succ, List.replicate_zero, List.set_cons_zero, List.set_cons_succ, List.length_set, List.append_nil]
    rfl
theorem p_is_round (T : Tx K mg) : FnA P w K mg base 3 (He.ma K (cS K) "is_round") (fun ds R => ∃ p f P Q S, ds = [.steps p f P Q S] ∧ R (.bl (decide ((Q.length : Int) - 1 = 0)))) :=
  fn_ok (N := ["self"]) (ps := ["self"]) (d_Steps_is_round T) (sc_of (by decide +kernel)) (fun _ _ _ _ _ _ us hl => match us, hl with | [_], _ => rfl) (fun _ _ ⟨_, _, _, _, _, e, _⟩ => e ▸ rfl) fun X cg hf ds R ⟨p, f, P, Q, S, ed, hR⟩ => by
    subst ed
    have bf := T.bf
    exact r_retD (v_eqI (x_degR T cg (v_sl cg (sc_Steps T) (sl_Steps_own_q T) f_sq (v_var 0))) v_int) hR
end
end DL

namespace DL
open PySem PySem.Spec PyProof.Rows L2
/-! ### a new object in a tuple's assignment -/
section
variable {X : Cx} {δ : List Sl} {a b e : Expr} {es es2 : List Expr} {pos p : Pos} {x y fl : Str} {ds : List Dt} {D : DEnds} {rest : List Stmt} {ss : List Sl}
variable {P : Program} {w : World} {K : PySem.W.Frag} {mg : Str → Option Value} {base : Heap} {k n m j : Nat} {N : List Str} {sc : Scope} {C g pr : Addr} {S : Si} {fs0 : List (Option Dt)}
def EvSx (X : Cx) (δ : List Sl) (es : List Expr) (Rs : List Sl → Prop) : Prop := ∀ M0 M H0 σ H δx σx, δ.length = σ.length → Sg X.K M0 M H0 (δ ++ δx) (σ ++ σx) H → tea X es σ H fun xs H2 => ∃ M' ss, Rs ss ∧ Sg X.K M0 M' H0 (δ ++ (δx ++ ss)) (σ ++ (σx ++ xs.map some)) H2
def Aptx (δ : List Sl) (y dy : Addr) : Prop := ∀ (k : Nat) (C' : Addr × Addr × Addr) (fs' : List (Option Dt)), δ[k]? = some (Sl.ob C' fs') → C'.2.1 ≠ y ∧ C'.2.1 ≠ dy ∧ C'.2.2 ≠ y ∧ C'.2.2 ≠ dy
theorem aptx_of {K : PySem.W.Frag} {M0 M : List Addr} {H0 H : Hp} {σ : L2.St} {δx : List Sl} {σx : L2.St} {y dy : Addr} (g : Sg K M0 M H0 (δ ++ δx) (σ ++ σx) H) (hl : δ.length = σ.length) (hy : H y = none) (hdy : H dy = none) : Aptx δ y dy := fun k C' fs' h => by
  obtain ⟨a, dx, vals, k1, k2, k3, k4, k5, k6, k7, k8, ⟨⟨ea, ed⟩, k9⟩, ⟨u, ku, _⟩, k10⟩ := (g.cut hl).is_ob k C' fs' h
  subst ea ed
  have ha : H C'.2.1 ≠ none := fun z => by
    rcases k9 with ⟨q, _⟩ | ⟨q, _⟩ <;> rw [z] at q <;> cases q
  have hd : H C'.2.2 ≠ none := fun z => by rw [ku] at z; cases z
  exact ⟨fun e => ha (e ▸ hy), fun e => ha (e ▸ hdy), fun e => hd (e ▸ hy), fun e => hd (e ▸ hdy)⟩
theorem s_newO (cg : Cg P w K mg base k N sc X) (mk : Mk K C g) (F : FnR P w K mg base CX0 n g (spI K C S)) (hn : n + 1 ≤ k) (hm : mg x = some (.ref C)) (ha : EvA X δ (e :: es) (are_ ds)) (h : S ds (fun fs => fs = fs0)) (n0 : ∃ d0, fs0[0]? = some (some d0)) (h2 : EvS X δ es2 ss) (hg : Gl X x := by first | rfl | exact Cg.gl (by assumption) rfl)
    (hd : (x == ("__debug__" : Str)) = false := by decide) (he : starEach (e :: es) X.env = (false, eval e X.env) :: starEach es X.env := by rfl) (hpl : (backTo pos (starEach es X.env)).any (·.1) = false := by rfl)
    (hs : starEach ((.Call (.Name x p) (e :: es) [] pos) :: es2) X.env = (false, eval (.Call (.Name x p) (e :: es) [] pos) X.env) :: starEach es2 X.env := by rfl) :
    EvSx X δ ((.Call (.Name x p) (e :: es) [] pos) :: es2) (fun ss' => ∃ y dy, ss' = .ob (C, y, dy) fs0 :: ss ∧ Aptx δ y dy) := fun M0 M H0 σ H δx σx hl G => by
  obtain ⟨rfl, rfl, rfl, rfl, rfl, rfl, rfl, nd, room, calm, nox⟩ := cg
  refine tea_of (pa_cons pe_tev pa_tea hs) ?_
  have step : tev X (.Call (.Name x p) (e :: es) [] pos) σ H fun v H2 => ∃ y dy, v = .ref y ∧ Aptx δ y dy ∧ Sg X.K M0 (y :: dy :: M) H0 (δ ++ δx ++ [.ob (C, y, dy) fs0]) (σ ++ σx ++ [some v]) H2 := by
    refine tev_of (StX.pe_makeR (CX := CX0) (E := E0) mk F (room.mono hn) hg hm pass0 pa_tea hd he hpl) (tea_mono (ha M0 M H0 σ H (G.cut hl)) fun vs H1 ⟨e1, ds', ed, q⟩ y dy hy hdy ne => ?_)
    cases ed
    have G1 := G.grow e1
    refine ⟨M, H1, y, dy, vs, ds, _, rfl, hy, hdy, ne, rfl, G1.dom, q, h, fun fs vals H2 rf e2 hs hv => ⟨rfl, y, dy, rfl, aptx_of G1 hl hy hdy, ?_⟩⟩
    subst rf
    exact G1.push_ob hy hdy ne e2 hs n0 hv
  refine tev_mono step fun v H2 ⟨y, dy, ev, ap, g2⟩ => ?_
  rw [List.append_assoc, List.append_assoc] at g2
  refine tea_mono (h2 M0 _ H0 σ H2 _ _ hl g2) fun xs H3 ⟨M', g3⟩ => ⟨M', _, ⟨y, dy, rfl, ap⟩, ?_⟩
  rw [List.append_assoc, List.append_assoc] at g3
  exact g3
theorem r_parX (n m : Nat) {px py pt pt2 : Pos} {kt k2 : Nat} {Rs : List Sl → Prop} (cg : Cg P w K mg base k N sc X) (h : EvSx X δ [a, b] Rs) (kk : ∀ s1 s2, Rs [s1, s2] → RunS X ((δ.set n s1).set m s2) rest D) (hr : ∀ ss, Rs ss → ss.length = 2) (hn : N[n]? = some x := by rfl) (hm : N[m]? = some y := by rfl) (hx : sc.names.lookup x = some .local := by rfl) (hy : sc.names.lookup y = some .local := by rfl) (hnm : n ≠ m := by decide)
    (hl : n < δ.length ∧ m < δ.length := by exact ⟨of_decide_eq_true rfl, of_decide_eq_true rfl⟩) (hw : swappedStores [.Tuple [.Name x px, .Name y py] kt pt] (.Tuple [a, b] k2 pt2) (envS sc) = pure (some [x, y]) := by rfl)
    (hs : swapsWithSole [.Tuple [.Name x px, .Name y py] kt pt] (.Tuple [a, b] k2 pt2) pos.line X.env = pure false := by rfl) : RunS X δ (.Assign [.Tuple [.Name x px, .Name y py] kt pt] (.Tuple [a, b] k2 pt2) pos :: rest) D :=
  r_of (ps_par cg.calm (cg.nm ▸ cg.nd) (cg.na hn) (cg.na hm) hnm (cg.lk hx) (cg.lk hy) pa_tea (cg.sw hw) hs) fun M0 M H0 σ H g => tea_mono (h M0 M H0 σ H [] [] g.len (by rw [List.append_nil, List.append_nil]; exact g)) fun vs H2 ⟨M', ss, rs, g2⟩ => by
    have hlen := g2.len
    have h3 := hr ss rs
    simp only [List.length_append, List.length_cons, List.length_nil, List.length_map] at hlen
    have h2 : vs.length = 2 := by have := g.len; omega
    match vs, h2, ss, h3 with
    | [v, w], _, [s1, s2], _ =>
      refine ⟨v, w, rfl, kk s1 s2 rs M0 M' H0 _ H2 ?_⟩
      have g3 := Sg.move (δr := [s2]) (σr := [some w]) g2 g.len n hl.1
      have g4 := Sg.move (δr := []) (σr := []) g3 (by rw [List.length_set, List.length_set]; exact g.len) m (by rw [List.length_set]; exact hl.2)
      rw [List.append_nil, List.append_nil] at g4
      exact g4
theorem Sg.setFA {K : PySem.W.Frag} {M0 M : List Addr} {H0 H : Hp} {σ : L2.St} (g : Sg K M0 M H0 δ σ H) {i : Nat} {C : Addr × Addr × Addr} {fs : List (Option Dt)} (h : δ[i]? = some (.ob C fs)) (ap : Apt δ i C.2.1 C.2.2) {vals : List (Option V)} (ne : C.2.2 ≠ C.2.1) (am : C.2.1 ∈ M) (dm : C.2.2 ∈ M) (hf : Flds K fs vals (hid M H)) (j : Nat) {d : Dt} {v : V} (r : rep K d v (hid M H)) :
    Sg K M0 M H0 (δ.set i (.ob C (putF fs j d))) σ (SlX.slH H C.2.1 C.1 C.2.2 (SlX.putS j v vals)) := by
  have hid_eq : hid M (SlX.slH H C.2.1 C.1 C.2.2 (SlX.putS j v vals)) = hid M H := by
    funext b
    unfold hid
    split
    · rfl
    · rename_i hb
      exact SlX.slH_ne (fun z => hb (by rw [z]; exact am)) fun z => hb (by rw [z]; exact dm)
  refine g.callM h (vals2 := SlX.putS j v vals) (fun z o q => ?_) (by unfold SlX.slH; rw [upd_same]) (by unfold SlX.slH; rw [upd_ne ne, upd_same]) (fun n dn hn => ?_) ap
  · obtain ⟨q1, q2⟩ := hid_out q
    rw [SlX.slH_ne (fun e => q1 (by rw [e]; exact List.mem_cons_self)) fun e => q1 (by rw [e]; exact List.mem_cons_of_mem _ List.mem_cons_self)]
    exact q2
  · rw [hid_eq]
    rcases putF_get hn with ⟨e1, e2⟩ | ⟨e1, e2⟩
    · rw [e1, e2]
      exact ⟨v, SlX.putS_get j v vals, r⟩
    · obtain ⟨x, hx, hr⟩ := hf n dn e2
      exact ⟨x, (SlX.putS_ne e1).mpr hx, hr⟩
/-- x.f = a new list, which is to be changed: it stands behind the slots -/
theorem r_fldL {C : Addr × Addr × Addr} {fs : List (Option Dt)} {p pos' : Pos} (n : Nat) (sc1 : SlX.SCls X.K C.1) (sl : SlX.Slot1 X.K C.1 fl pr j) (he : EvL X δ e ds) (hd : δ[n]? = some (.ob C fs)) (ap : Apt δ n C.2.1 C.2.2)
    (kk : ∀ l M0 M H0 σ H, δ.length = σ.length → Sg X.K M0 M H0 (δ.set n (.ob C (putF fs j (.val (.ref l)))) ++ [.mu ds]) (σ ++ [some (.ref l)]) H → tes X rest (dEnds X.K M0 H0 D) σ H) (hN : X.N[n]? = some x := by first | rfl | exact Cg.na (by assumption) rfl)
    (hv : Vis X.env.scope x := by first | exact Or.inl rfl | exact Or.inr (Or.inl rfl) | exact Or.inr (Or.inr rfl) | exact Cg.vis (by assumption) (by first | exact Or.inl rfl | exact Or.inr (Or.inl rfl) | exact Or.inr (Or.inr rfl)))
    (h1 : (x == ("__debug__" : Str)) = false := by decide) (h2 : (x == ("__classdict__" : Str)) = false := by decide) (hs : swapsWith e (some (.Attribute (.Name x p) fl pos')) pos.line X.env = pure false := by rfl) : RunS X δ (.Assign [.Attribute (.Name x p) fl pos'] e pos :: rest) D :=
  r_of (SlX.ps_sl (pe_var hN hv h1 h2) pe_tev hs) fun M0 M H0 σ H g => tev_mono (he M0 M H0 σ H g) fun v H1 ⟨l, xs, Ha, ev, e1, hn, eH, r⟩ => by
    subst ev eH
    have g1 := (g.grow e1).push_mu hn r
    have hdl : (δ ++ [Sl.mu ds])[n]? = some (.ob C fs) := by rw [List.getElem?_append_left (List.getElem?_eq_some_iff.mp hd).1]; exact hd
    obtain ⟨a, dx, vals, m1, m2, n1, n2, k1, k2, ne, hσ, ⟨⟨ea, ed⟩, hs⟩, hu, hfl⟩ := g1.is_ob n C fs hdl
    subst ea ed
    have ap2 : Apt (δ ++ [Sl.mu ds]) n C.2.1 C.2.2 := fun k C' fs' hk h => by
      by_cases hkl : k < δ.length
      · rw [List.getElem?_append_left hkl] at h
        exact ap k C' fs' hk h
      · rw [List.getElem?_append_right (by omega)] at h
        cases hz : k - δ.length with
        | zero => rw [hz] at h; cases h
        | succ q => rw [hz] at h; simp at h
    have g2 := g1.setFA hdl ap2 ne m1 m2 hfl j (d := .val (.ref l)) (v := .ref l) (rep_val.mpr rfl)
    have hn1 := (List.getElem?_eq_some_iff.mp hd).1
    have hσ2 : σ[n]? = some (some (.ref C.2.1)) := by
      rw [List.getElem?_append_left (by rw [← g.len]; exact hn1)] at hσ
      exact hσ
    rw [List.set_append_left _ _ hn1] at g2
    exact ⟨.ref C.2.1, hσ2, C.2.1, C.1, C.2.2, pr, vals, j, rfl, hs, sc1, sl, kk l M0 (l :: M) H0 σ _ g.len g2⟩
end
end DL

namespace DL
open PySem PySem.Spec PyProof.Rows L2
section
variable {X : Cx} {δ : List Sl} {c e : Expr} {pos p px py p1 apos mpos cpos cpos2 : Pos} {x y fl m : Str} {ds : List Dt} {D : DEnds} {rest body : List Stmt}
variable {P : Program} {w : World} {K : PySem.W.Frag} {mg : Str → Option Value} {base : Heap} {k n q j nn : Nat} {N : List Str} {sc : Scope} {pr gg l : Addr} {S : Sm}
theorem loopX (cg : Cg P w K mg base k N sc X) {D' : Ends} (J : Nat → List Addr → L2.St → Hp → Prop) {m0 : Nat} {M : List Addr} {σ : L2.St} {H : Hp} (h0 : J m0 M σ H)
    (hs : ∀ m M σ H, J m M σ H → ∃ b, (tet X c σ H fun b' H1 => Ex H H1 ∧ b' = b) ∧ ∀ H1, Ex H H1 → (b = true → ∀ E : Ends, (∀ m' M' σ' H', m' < m → J m' M' σ' H' → E.nx σ' H') → tes X body E σ H1) ∧ (b = false → tes X rest D' σ H1)) : tes X (.While c body [] pos :: rest) D' σ H :=
  tes_of (pss_cons (ps_while (never cg) pt_tet pss_tes) pss_tes) (by
    refine ⟨fun m σ' H' => ∃ M', J m M' σ' H', ⟨m0, M, h0⟩, ?_⟩
    rintro m σ' H' ⟨M', iv⟩
    obtain ⟨b, hc, h1⟩ := hs m M' σ' H' iv
    refine tet_mono hc fun b' H1 ⟨e1, eb⟩ => ?_
    subst eb
    obtain ⟨h2, h3⟩ := h1 H1 e1
    cases b' with
    | true =>
      rw [if_pos rfl]
      refine ⟨fun σ2 H2 => ∃ m' M2, m' < m ∧ J m' M2 σ2 H2, fun σ2 H2 ⟨m', M2, hm, iv'⟩ => ⟨m', hm, M2, iv'⟩, ?_⟩
      exact h2 rfl _ fun m' M2 σ2 H2 hm iv' => ⟨m', M2, hm, iv'⟩
    | false =>
      rw [if_neg Bool.false_ne_true]
      exact h3 rfl)
theorem appendX {C C2 : Addr × Addr × Addr} {fs fs2 : List (Option Dt)} {RF : List (Option Dt) → Dt → Prop} {pl : Sem Bool} (cg : Cg P w K mg base k N sc X) (n q : Nat) (sc1 : SlX.SCls X.K C.1) (sl : SlX.Slot1 X.K C.1 fl pr j) (sc2 : SlX.SCls X.K C2.1) (hm : Meth X.K C2.1 m gg) (F : FnR X.prog X.w X.K X.mg X.base CX0 nn gg (spM X.K C2.1 S)) (hn : nn ≤ k)
    {M0 M : List Addr} {H0 : Hp} {σ : L2.St} {H : Hp} (g : Sg X.K M0 M H0 (δ ++ [.mu ds]) (σ ++ [some (.ref l)]) H) (hl : δ.length = σ.length) (hd : δ[n]? = some (.ob C fs)) (hf : fs[j]? = some (some (.val (.ref l)))) (hd2 : δ[q]? = some (.ob C2 fs2)) (f0 : ∃ d0, fs2[0]? = some (some d0)) (ap : Apt δ q C2.2.1 C2.2.2) (hS : S fs2 [] RF) (hz : ds.length ≤ 100000)
    {E : Ends} (kk : ∀ fs3 d H', RF fs3 d → Sg X.K M0 M H0 (δ.set q (.ob C2 fs3) ++ [.mu (ds ++ [d])]) (σ ++ [some (.ref l)]) H' → tes X rest E σ H')
    (hN : X.N[n]? = some x := by first | rfl | exact Cg.na (by assumption) rfl) (hN2 : X.N[q]? = some y := by first | rfl | exact Cg.na (by assumption) rfl)
    (hv : Vis X.env.scope x := by first | exact Or.inl rfl | exact Or.inr (Or.inl rfl) | exact Or.inr (Or.inr rfl) | exact Cg.vis (by assumption) (by first | exact Or.inl rfl | exact Or.inr (Or.inl rfl) | exact Or.inr (Or.inr rfl)))
    (hv2 : Vis X.env.scope y := by first | exact Or.inl rfl | exact Or.inr (Or.inl rfl) | exact Or.inr (Or.inr rfl) | exact Cg.vis (by assumption) (by first | exact Or.inl rfl | exact Or.inr (Or.inl rfl) | exact Or.inr (Or.inr rfl)))
    (h1 : (x == ("__debug__" : Str)) = false := by decide) (h2 : (x == ("__classdict__" : Str)) = false := by decide) (h3 : (y == ("__debug__" : Str)) = false := by decide) (h4 : (y == ("__classdict__" : Str)) = false := by decide)
    (hb : attributeBase (.Name x px) fl X.env (eval (.Name x px) X.env) = eval (.Name x px) X.env := by rfl)
    (ht : eval (.Call (.Attribute (.Name y py) m mpos) [] [] cpos2) X.env = (do
      let ov ← eval (.Name y py) X.env
      standAt mpos.atName
      let (f, first) ← holding [ov] (getMethod ov m pl)
      callWith cpos2 f first (backTo cpos2 (starEach [] X.env)) (backToKw cpos2 (keywordEach [] X.env))) := by rfl)
    (hbase : attributeBase (.Attribute (.Name x px) fl p1) "append" X.env (eval (.Attribute (.Name x px) fl p1) X.env) = eval (.Attribute (.Name x px) fl p1) X.env := by rfl)
    (hfew : ((backTo cpos (starEach [.Call (.Attribute (.Name y py) m mpos) [] [] cpos2] X.env)).all (fun x => !x.1) && (backToKw cpos (keywordEach [] X.env)).all (fun x => x.1.isSome)
      && decide ([Expr.Call (.Attribute (.Name y py) m mpos) [] [] cpos2].length + ([] : List Keyword).length + (if ([] : List Keyword).isEmpty then 0 else 1) < 30)) = true := by rfl)
    (hline : (apos.endLine == cpos.line) = true := by rfl) (hst : starEach [.Call (.Attribute (.Name y py) m mpos) [] [] cpos2] X.env = (false, eval (.Call (.Attribute (.Name y py) m mpos) [] [] cpos2) X.env) :: starEach [] X.env := by rfl) (hpl : (backTo cpos (starEach [] X.env)).any (·.1) = false := by rfl)
    (hs : swapsWith (.Call (.Attribute (.Attribute (.Name x px) fl p1) "append" apos) [.Call (.Attribute (.Name y py) m mpos) [] [] cpos2] [] cpos) none pos.line X.env = pure false := by rfl) :
    tes X (.Expr (.Call (.Attribute (.Attribute (.Name x px) fl p1) "append" apos) [.Call (.Attribute (.Name y py) m mpos) [] [] cpos2] [] cpos) pos :: rest) E σ H := by
  have hn1 := (List.getElem?_eq_some_iff.mp hd).1
  have hq1 := (List.getElem?_eq_some_iff.mp hd2).1
  have gc := g.cut hl
  obtain ⟨a, dx, vals, m1, m2, n1, n2, k1, k2, ne, hσ, ⟨⟨ea, ed⟩, hsl⟩, hu, hfl⟩ := gc.is_ob n C fs hd
  obtain ⟨b, db, vals2, u1, u2, u3, u4, u5, u6, une, uσ, ⟨⟨ua, ud⟩, usl⟩, uu, ufl⟩ := gc.is_ob q C2 fs2 hd2
  subst ea ed ua ud
  obtain ⟨v1, v2⟩ := slt_full usl ufl f0
  obtain ⟨xl, hxl, rxl⟩ := hfl j _ hf
  obtain rfl := rep_val.mp rxl
  have hgl : (σ ++ [some (V.ref l)])[δ.length]? = some (some (.ref l)) := by rw [hl, List.getElem?_append_right (Nat.le_refl _), Nat.sub_self]; rfl
  have hdl : (δ ++ [Sl.mu ds])[δ.length]? = some (.mu ds) := by rw [List.getElem?_append_right (Nat.le_refl _), Nat.sub_self]; rfl
  obtain ⟨l', xs, w1, w2, w3, w4, w5, w6⟩ := g.is_mu δ.length ds hdl
  rw [hgl] at w4
  obtain rfl : l = l' := V.ref.inj (Option.some.inj (Option.some.inj w4))
  refine tes_of (pss_cons (ps_expr (pe_bm PySem.F.plainAttrs_list PySem.F.slot_list_append PySem.F.type_list_append mt_append (SlX.pe_sl (pe_var hN hv h1 h2) hb) (pa_cons (SlX.pe_methSl0 (CX := CX0) (E := E0) (pe_var hN2 hv2 h3 h4) sc2 hm F (cg.room.mono hn) pass0 ht) pa_nil hst) hbase hfew hline hst hpl) hs) pss_tes) ?_
  refine ⟨.ref C.2.1, hσ, C.2.1, C.1, C.2.2, pr, vals, j, .ref l, rfl, hsl, sc1, sl, hxl, .inl ⟨rfl, xs, .inl (.inl w5)⟩, .ref C2.2.1, uσ, C2.2.1, C2.2.2, vals2, rfl, usl, ?_⟩
  refine ⟨M, C2.2.1, C2.2.2, [], vals2, fs2, [], RF, rfl, u1, u2, une, g.dom, v1, v2, ufl, reps_nil.mpr rfl, hS, fun fs3 d v vals3 H2 rf ex q1 q2 hf3 rv => ?_⟩
  have ap2 : Apt (δ ++ [Sl.mu ds]) q C2.2.1 C2.2.2 := fun k C' fs' hk h => by
    by_cases hkl : k < δ.length
    · rw [List.getElem?_append_left hkl] at h
      exact ap k C' fs' hk h
    · rw [List.getElem?_append_right (by omega)] at h
      cases hz : k - δ.length with
      | zero => rw [hz] at h; cases h
      | succ z => rw [hz] at h; simp at h
  have hdq : (δ ++ [Sl.mu ds])[q]? = some (.ob C2 fs2) := by rw [List.getElem?_append_left hq1]; exact hd2
  have g2 := g.callM hdq ex q1 q2 hf3 ap2
  rw [List.set_append_left _ _ hq1] at g2
  have hdl2 : (δ.set q (.ob C2 fs3) ++ [Sl.mu ds])[δ.length]? = some (.mu ds) := by rw [List.getElem?_append_right (by rw [List.length_set]; exact Nat.le_refl _), List.length_set, Nat.sub_self]; rfl
  obtain ⟨l', xs2, z1, z2, z3, z4, z5, z6⟩ := g2.is_mu δ.length ds hdl2
  rw [hgl] at z4
  obtain rfl : l = l' := V.ref.inj (Option.some.inj (Option.some.inj z4))
  refine ⟨l, xs2, v, rfl, rfl, z5, ?_, ?_⟩
  · rw [← reps_len z6]
    exact Nat.lt_of_le_of_lt hz (by decide)
  · have g3 := g2.put hdl2 hgl z5 (reps_app z6 (reps_mk rv (reps_nil.mpr rfl)))
    rw [List.set_append_right _ _ (by rw [List.length_set]; exact Nat.le_refl _), List.length_set, Nat.sub_self] at g3
    exact kk fs3 d _ rf g3
end
end DL

namespace DL
open PySem PySem.Spec PyProof.Rows L2
section
variable {P : Program} {w : World} {K : PySem.W.Frag} {mg : Str → Option Value} {base : Heap}
theorem RunS.at {X : Cx} {δ : List Sl} {st : List Stmt} {D : DEnds} {M0 M : List Addr} {H0 H : Hp} {σ : L2.St} (h : RunS X δ st D) (g : Sg X.K M0 M H0 δ σ H) : tes X st (dEnds X.K M0 H0 D) σ H := h M0 M H0 σ H g
theorem atT {X : Cx} {δ : List Sl} {e : Expr} {k : Bool} {M0 M : List Addr} {H0 H : Hp} {σ : L2.St} (h : EvT X δ e k) (g : Sg X.K M0 M H0 δ σ H) : tet X e σ H fun c H2 => Ex H H2 ∧ c = k := h M0 M H0 σ H g
theorem atE {X : Cx} {δ : List Sl} {e : Expr} {d : Dt} {M0 M : List Addr} {H0 H : Hp} {σ : L2.St} (h : EvD X δ e d) (g : Sg X.K M0 M H0 δ σ H) : tev X e σ H fun v H2 => Ex H H2 ∧ rep X.K d v (hid M H2) := tev_mono (h M0 M H0 σ H g) fun v H2 ⟨e, d', ed, r⟩ => by
  cases ed
  exact ⟨e, r⟩
def rowsAt {p : Int} [PC p] (f S : Pol p) (i : Nat) : List Dt := (List.range i).map (rowF f S)
def stR (K : PySem.W.Frag) (a da b db l : Addr) {p : Int} [PC p] (f S : Pol p) (md : Dt) (i : Nat) (z : Int) : List Sl := [.ob (cR K, a, da) [none, none, some (.val (.ref l))], .im (.curve p f.r), .im md, .ob (cS K, b, db) (fS f S i), .im (.int z)]
def stF (K : PySem.W.Frag) (a da : Addr) {p : Int} [PC p] (f S : Pol p) (md : Dt) (i : Nat) (z : Int) : List Sl := [.ob (cR K, a, da) [none, none, some (.lst (rowsAt f S i))], .im (.curve p f.r), .im md, .im (.steps p f.r (sP f S i).r (sQ f S i).r S.r), .im (.int z)]
structure Ap4 (a da b db : Addr) : Prop where
  h1 : a ≠ b
  h2 : a ≠ db
  h3 : da ≠ b
  h4 : da ≠ db
theorem fz {M0 M : List Addr} {H0 H : Hp} {σ : L2.St} {a da b db l : Addr} {p : Int} [PC p] {f S : Pol p} {md : Dt} {i : Nat} {z : Int} (g : Sg K M0 M H0 (stR K a da b db l f S md i z ++ [.mu (rowsAt f S i)]) (σ ++ [some (.ref l)]) H) (hl : σ.length = 5) (ap : Ap4 a da b db) : ∃ M', Sg K M0 M' H0 (stF K a da f S md i z) σ H := by
  obtain ⟨M1, g1⟩ := g.freeze (i := 5) rfl
  have g1' : Sg K M0 M1 H0 [.ob (cR K, a, da) [none, none, some (.val (.ref l))], .im (.curve p f.r), .im md, .ob (cS K, b, db) (fS f S i), .im (.int z), .im (.lst (rowsAt f S i))] (σ ++ [some (.ref l)]) H := g1
  obtain ⟨v, hv, rv⟩ := g1'.is_im 5 _ rfl
  rw [List.getElem?_append_right (by omega), hl] at hv
  obtain rfl : V.ref l = v := Option.some.inj (Option.some.inj hv)
  have g2 := g1'.refield (i := 0) (C := (cR K, a, da)) (fs' := [none, none, some (.lst (rowsAt f S i))]) rfl (fun vals hf j d hj => by
    match j, hj with
    | 0, hj => cases hj
    | 1, hj => cases hj
    | 2, hj =>
      cases hj
      obtain ⟨x, hx, hr⟩ := hf 2 _ rfl
      exact ⟨x, hx, by rw [rep_val.mp hr]; exact rv⟩
    | j + 3, hj => simp at hj)
  obtain ⟨M3, g3⟩ := g2.freezeO (i := 3) (C := (cS K, b, db)) rfl seal_steps ⟨_, rfl⟩ (fun k C' fs' hk h => by
    match k, h with
    | 0, h =>
      cases h
      exact ⟨ap.h1, ap.h2, ap.h3, ap.h4⟩
    | 1, h => cases h
    | 2, h => cases h
    | 3, h => exact absurd rfl hk
    | 4, h => cases h
    | 5, h => cases h
    | k + 6, h => simp at h)
  have g4 : Sg K M0 M3 H0 (stF K a da f S md i z ++ [.im (.lst (rowsAt f S i))]) (σ ++ [some (.ref l)]) H := g3
  exact ⟨M3, g4.cut (by rw [hl]; rfl)⟩
def fR (p : Int) (rows : List (List Int × List Int × List Int)) (last len : Int) : List (Option Dt) := [some (.int last), some (.int len), some (.lst (rowsD p rows))]
theorem seal_round {p : Int} {rows : List (List Int × List Int × List Int)} {last len : Int} : Seal K (cR K) (fR p rows last len) (.round p rows last len) := fun a dx vals H q1 q2 q3 =>
  rep_round.mpr (seal_obj (.cons (fun _ _ h => rep_int.mp h) (.cons (fun _ _ h => rep_int.mp h) (.cons (fun v H h => by
    obtain ⟨a, xs, h1, h2, h3⟩ := rep_lst.mp h
    simp only [repG]
    exact ⟨a, xs, h1, h2, rows_up.mpr h3⟩) .nil))) q1 q2 q3)
/-- the round of a chain: m is the first place from 1 on at which Q is a residue -/
structure Rd {p : Int} [PC p] (f S : Pol p) (m : Nat) : Prop where
  m1 : 1 ≤ m
  q1 : (sQ f S m).len = 1
  less : ∀ i, 1 ≤ i → i < m → (sQ f S i).len ≠ 1
  ln : ln f S m ≤ 60
theorem ln_mono {p : Int} [PC p] (f S : Pol p) : ∀ {i j : Nat}, i ≤ j → DL.ln f S i ≤ DL.ln f S j
  | i, 0, h => by rw [Nat.le_zero.mp h]; exact Nat.le_refl _
  | i, j + 1, h => by
    by_cases e : i = j + 1
    · rw [e]; exact Nat.le_refl _
    · exact Nat.le_trans (ln_mono f S (Nat.le_of_lt_succ (Nat.lt_of_le_of_ne h e))) (Nat.le_add_right _ _)
theorem ln_ge {p : Int} [PC p] {f S : Pol p} {n : Nat} {s : Int} (F : Fd f S n s) : ∀ i, i ≤ DL.ln f S i
  | 0 => Nat.le_refl _
  | i + 1 => by
    have h1 := ln_ge F i
    have h2 := sA_len F i
    show i + 1 ≤ DL.ln f S i + ((sA f S i).len - 1)
    omega
theorem atI_last {α : Type} (l : List α) (x : α) : atI (l ++ [x]) (-1) = some x := by
  unfold atI ixN
  rw [if_neg (by decide), if_pos (by rw [List.length_append, List.length_singleton]; omega)]
  show (l ++ [x])[(-1 + ((l ++ [x]).length : Int)).toNat]? = _
  rw [List.length_append, List.length_singleton, show (-1 + ((l.length + 1 : Nat) : Int)).toNat = l.length by omega, List.getElem?_append_right (Nat.le_refl _), Nat.sub_self]
  rfl
def I_round : Si := fun ds RF => ∃ (p : Int) (_ : PC p) (f : Pol p) (n : Nat) (s : Int) (h : CD p f n s) (m : Nat) (md : Dt), ds = [.curve p f.r, md] ∧ (md = .non ∨ md = .int 2000) ∧ Rd f (rootS f n s h.hs) m ∧ RF (fR p (rowsF f (rootS f n s h.hs) m) (sQ f (rootS f n s h.hs) m).ld (DL.ln f (rootS f n s h.hs) m : Nat))
theorem p_Round_init (T : Tx K mg) : FnR P w K mg base CX0 10 (He.ma K (cR K) "__init__") (spI K (cR K) I_round) :=
  fnI_ok (N := ["self", "curve", "most", "steps", "length"]) (ps := ["self", "curve", "most"]) (d_Round___init__ T) (sc_of (by decide +kernel)) (fun _ _ _ _ _ _ us hl => match us, hl with | [_, _, _], _ => rfl) (fun _ _ ⟨_, _, _, _, _, _, _, _, e, _⟩ => e ▸ rfl) fun X cg hf ds RF ⟨p, hp, f, n, s, h, m, md, e, hmd, hr, hR⟩ a da => by
    subst e
    have bf := T.bf
    have fr := cg.fr
    generalize hS : rootS f n s h.hs = S at *
    have chb : ∀ i, ChB f S i := fun i => hS ▸ ch_b h i
    refine r_parX (Rs := fun ss' => ∃ y dy, ss' = .ob (cS K, y, dy) (fS f S 0) :: [.im (.int 0)] ∧ Aptx _ y dy) 3 4 cg (s_newO cg (mk_Steps T) (p_Steps_init T) (by decide) (g_Steps T) (a_d (v_var 1) a_nil) ⟨p, hp, f, n, s, h, rfl, by rw [hS]⟩ ⟨_, rfl⟩ (s_im v_int s_nil)) (fun s1 s2 ⟨b, db, e, ap⟩ => ?_) (fun ss ⟨_, _, e, _⟩ => by rw [e]; rfl)
    cases e
    have ap4 : Ap4 a da b db := by
      obtain ⟨q1, q2, q3, q4⟩ := ap 0 (cR K, a, da) [] rfl
      exact ⟨q1, q2, q3, q4⟩
    refine r_fldL 0 (C := (cR K, a, da)) (by rw [fr]; exact sc_Round T) (by rw [fr]; exact sl_Round_own_rows T) (l_lst a_nil) rfl (fun k C' fs' hk hh => ?_) fun l M0 M H0 σ H hl g => ?_
    · match k, hh with
      | 0, hh => exact absurd rfl hk
      | 1, hh => cases hh
      | 2, hh => cases hh
      | 3, hh =>
        cases hh
        exact ⟨ap4.h1.symm, ap4.h3.symm, ap4.h2.symm, ap4.h4.symm⟩
      | 4, hh => cases hh
      | k + 5, hh => exact nomatch (show (none : Option Sl) = some _ from hh)
    have g0 : Sg X.K M0 M H0 (stR K a da b db l f S md 0 (DL.ln f S 0 : Nat) ++ [.mu (rowsAt f S 0)]) (σ ++ [some (.ref l)]) H := g
    have hl5 : σ.length = 5 := hl.symm
    refine loopX cg (fun q M σ H => ∃ i, i + q = m ∧ σ.length = 5 ∧ Sg X.K M0 M H0 (stR K a da b db l f S md i (DL.ln f S i : Nat) ++ [.mu (rowsAt f S i)]) (σ ++ [some (.ref l)]) H) (m0 := m) ⟨0, by omega, hl5, g0⟩ ?_
    rintro q M σ H ⟨i, hi, hl5, g⟩
    have fz' : ∀ {i : Nat} {z : Int} {M : List Addr} {σ : L2.St} {H : Hp}, σ.length = 5 → Sg X.K M0 M H0 (stR K a da b db l f S md i z ++ [.mu (rowsAt f S i)]) (σ ++ [some (.ref l)]) H → ∃ M', Sg X.K M0 M' H0 (stF K a da f S md i z) σ H := fun hl g => by
      rw [fr] at g ⊢
      exact fz g hl ap4
    obtain ⟨Mf, gf⟩ := fz' hl5 g
    have sR : ∀ {δ : List Sl} {d : Dt} {fs : List (Option Dt)} {px pos : Pos}, δ[0]? = some (Sl.ob (cR K, a, da) fs) → fs[2]? = some (some d) → EvD X δ (.Attribute (.Name "self" px) "own_rows" pos) d := fun h1 h2 => v_self (C := (cR K, a, da)) (j := 2) 0 (by rw [fr]; exact sc_Round T) (by rw [fr]; exact sl_Round_own_rows T) h1 h2
    have hb1 : (rowsAt f S i).isEmpty = decide (i = 0) := by
      unfold rowsAt
      cases i with
      | zero => rfl
      | succ i => rw [List.range_succ_eq_map]; rfl
    refine ⟨(rowsAt f S i).isEmpty || !decide (((sQ f S i).r.length : Int) - 1 = 0), atT (δ := stF K a da f S md i (DL.ln f S i : Nat)) (t_w (w_or (t_eqE cg (sR rfl rfl) (v_L (l_lst a_nil))) fun _ => w_or1 (t_not (t_val (v_meth0 cg (sc_Steps T) (mm_Steps_is_round T) (p_is_round T) (by decide) i_steps (v_var 3) ⟨_, _, _, _, _, rfl, rfl⟩))))) gf, fun H1 e1 => ⟨fun hq E hE => ?_, fun hq => ?_⟩⟩
    · have him : i < m := by
        by_cases hz : i < m
        · exact hz
        · have e : i = m := by omega
          rw [hb1, e, decide_eq_false (by have := hr.m1; omega), decide_eq_true (by have : (sQ f S m).r.length = 1 := hr.q1; omega)] at hq
          cases hq
      have hln : DL.ln f S (i + 1) ≤ 60 := Nat.le_trans (ln_mono f S him) hr.ln
      have al := chb i
      refine appendX (S := S_go) (C := (cR K, a, da)) (C2 := (cS K, b, db)) (RF := fun fs d => fs = fS f S (i + 1) ∧ d = rowF f S i) cg 0 3 (by rw [fr]; exact sc_Round T) (by rw [fr]; exact sl_Round_own_rows T) (by rw [fr]; exact sc_Steps T) (by rw [fr]; exact mm_Steps_go_on T) (by rw [cg.prog, cg.wd, fr, cg.glo, cg.bs]; exact p_go_on T) (by decide) (g.grow e1) (by rw [hl5]; rfl) rfl rfl rfl ⟨_, rfl⟩ (fun k C' fs' hk hh => ?_) ⟨p, hp, f, S, i, rfl, rfl, chb i, rfl, rfl⟩ ?_ (fun fs3 d H2 ⟨e3, e4⟩ g2 => ?_)
      · match k, hh with
        | 0, hh =>
          cases hh
          exact ⟨ap4.h1, ap4.h2, ap4.h3, ap4.h4⟩
        | 1, hh => cases hh
        | 2, hh => cases hh
        | 3, hh => exact absurd rfl hk
        | 4, hh => cases hh
        | k + 5, hh => exact nomatch (show (none : Option Sl) = some _ from hh)
      · unfold rowsAt
        rw [List.length_map, List.length_range]
        have h1 := ln_ge (hS ▸ h.fd) i
        have h2 := ln_mono f S (Nat.le_of_lt him)
        have h3 := hr.ln
        omega
      · subst e3 e4
        have er : rowsAt f S i ++ [rowF f S i] = rowsAt f S (i + 1) := by
          unfold rowsAt
          rw [List.range_succ, List.map_append]
          rfl
        rw [er] at g2
        have g3 : Sg X.K M0 M H0 (stR K a da b db l f S md (i + 1) (DL.ln f S i : Nat) ++ [.mu (rowsAt f S (i + 1))]) (σ ++ [some (.ref l)]) H2 := g2
        obtain ⟨M5, g5⟩ := fz' hl5 g3
        obtain ⟨v4, k1, k2⟩ := g5.is_im 4 _ rfl
        have hlast : atI (rowsAt f S (i + 1)) (-1) = some (rowF f S i) := by
          rw [← er]
          exact atI_last _ _
        have hx : Nm X 4 "length" := cg.nmL rfl rfl
        refine tes_of (pss_cons (ps_aug (cg.nm ▸ cg.nd) hx.at_ hx.loc pe_tev ip_add hx.fn) pss_tes) ⟨v4, k1, tev_mono (atE (δ := stF K a da f S md (i + 1) (DL.ln f S i : Nat)) (x_degR T cg (v_item .t (v_item .l (sR rfl rfl) (v_neg v_int) hlast) v_int rfl)) g5) fun u H3 ⟨e5, q5⟩ => ⟨_, _, rep_int.mp k2, rep_int.mp q5, ?_⟩⟩
        have eln : ((DL.ln f S i : Nat) : Int) + (((sA f S i).r.length : Int) - 1) = ((DL.ln f S (i + 1) : Nat) : Int) := by
          have h2 := sA_len (hS ▸ h.fd) i
          have h3 : DL.ln f S (i + 1) = DL.ln f S i + ((sA f S i).len - 1) := rfl
          have h4 : (sA f S i).r.length = (sA f S i).len := rfl
          omega
        dsimp only
        rw [eln]
        have g6 : Sg X.K M0 M H0 (stR K a da b db l f S md (i + 1) (DL.ln f S (i + 1) : Nat) ++ [.mu (rowsAt f S (i + 1))]) (σ.set 4 (some (.int (DL.ln f S (i + 1) : Nat))) ++ [some (.ref l)]) H3 := by
          have := (g3.grow e5).set_im 4 (d := .int (DL.ln f S (i + 1) : Nat)) (v := .int (DL.ln f S (i + 1) : Nat)) (rep_int.mpr rfl)
          rw [show (σ ++ [some (V.ref l)]).set 4 (some (V.int (DL.ln f S (i + 1) : Nat))) = σ.set 4 (some (V.int (DL.ln f S (i + 1) : Nat))) ++ [some (V.ref l)] from List.set_append_left _ _ (by rw [hl5]; decide)] at this
          exact this
        have hl6 : (σ.set 4 (some (V.int (DL.ln f S (i + 1) : Nat)))).length = 5 := by rw [List.length_set]; exact hl5
        have g7 : Sg X.K M0 M H0 (stR K a da b db l f S md (i + 1) (DL.ln f S (i + 1) : Nat)) (σ.set 4 (some (.int (DL.ln f S (i + 1) : Nat)))) H3 := g6.cut (by rw [hl6]; rfl)
        have fin : ∀ H4, Ex H3 H4 → tes X [] E (σ.set 4 (some (.int (DL.ln f S (i + 1) : Nat)))) H4 := fun H4 e6 => tes_of pss_nil (hE (q - 1) M _ H4 (by omega) ⟨i + 1, by omega, hl6, g6.grow e6⟩)
        rcases hmd with e | e
        · subst e
          refine tes_of (pss_cons (ps_if pt_tet pss_tes pss_tes) pss_tes) (tet_mono (atT (δ := stR K a da b db l f S .non (i + 1) (DL.ln f S (i + 1) : Nat)) (k := false) (t_w ((w_and (k := false) (m := false) ((t_notN (v_var 2) true (fun d M H v ed r => by cases ed; exact decide_eq_true (rep_non.mp r))).is rfl) fun h => nomatch h).is rfl)) g7) fun c H4 ⟨e6, ec⟩ => ?_)
          subst ec
          rw [if_neg Bool.false_ne_true]
          exact tes_mono (tes_of pss_nil (show (⟨fun σ' H' => σ' = σ.set 4 (some (.int (DL.ln f S (i + 1) : Nat))) ∧ H' = H4, fun _ _ => False, fun _ _ => False, fun _ _ => False⟩ : Ends).nx _ _ from ⟨rfl, rfl⟩)) (fun σ' H' ⟨a1, a2⟩ => by rw [a1, a2]; exact fin H4 e6) (fun _ _ z => z.elim) (fun _ _ z => z.elim) fun _ _ z => z.elim
        · subst e
          refine tes_of (pss_cons (ps_if pt_tet pss_tes pss_tes) pss_tes) (tet_mono (atT (δ := stR K a da b db l f S (.int 2000) (i + 1) (DL.ln f S (i + 1) : Nat)) (k := false) (t_w ((w_and (k := true) (m := decide ((2000 : Int) < (DL.ln f S (i + 1) : Nat))) ((t_notN (v_var 2) false (fun d M H v ed r => by cases ed; rw [rep_int.mp r]; rfl)).is rfl) fun _ => w_and1 (t_gt (v_var 4) (v_var 2))).is (decide_eq_false (by omega)))) g7) fun c H4 ⟨e6, ec⟩ => ?_)
          subst ec
          rw [if_neg Bool.false_ne_true]
          exact tes_mono (tes_of pss_nil (show (⟨fun σ' H' => σ' = σ.set 4 (some (.int (DL.ln f S (i + 1) : Nat))) ∧ H' = H4, fun _ _ => False, fun _ _ => False, fun _ _ => False⟩ : Ends).nx _ _ from ⟨rfl, rfl⟩)) (fun σ' H' ⟨a1, a2⟩ => by rw [a1, a2]; exact fin H4 e6) (fun _ _ z => z.elim) (fun _ _ z => z.elim) fun _ _ z => z.elim
    · have him : i = m := by
        rw [hb1] at hq
        by_cases h0 : i = 0
        · rw [decide_eq_true h0] at hq
          cases hq
        · rw [decide_eq_false h0, Bool.false_or] at hq
          by_cases h1 : ((sQ f S i).r.length : Int) - 1 = 0
          · by_cases h2 : i < m
            · exact absurd (show (sQ f S i).r.length = 1 by omega) (hr.less i (by omega) h2)
            · omega
          · rw [decide_eq_false h1] at hq
            cases hq
      subst him
      rw [show fR p (rowsF f S i) (sQ f S i).ld (DL.ln f S i : Nat) = [some (.int (sQ f S i).ld), some (.int (DL.ln f S i : Nat)), some (.lst (rowsAt f S i))] from by unfold fR; rw [rowsF_D]; rfl] at hR
      refine RunS.at (δ := stF K a da f S md i (DL.ln f S i : Nat)) ?_ (gf.grow e1)
      refine r_fld 0 (C := (cR K, a, da)) (R := is_ (.int (sQ f S i).ld)) (by rw [fr]; exact sc_Round T) (by rw [fr]; exact sl_Round_own_last T) (x_ldR T cg (v_sl cg (sc_Steps T) (sl_Steps_own_q T) f_sq (v_var 3))) rfl fun d hd => ?_
      cases hd
      refine r_fld 0 (C := (cR K, a, da)) (by rw [fr]; exact sc_Round T) (by rw [fr]; exact sl_Round_own_length T) (v_var 4) rfl fun d hd => ?_
      cases hd
      exact r_nil ⟨_, _, rfl, hR⟩
end
end DL

namespace DL
open PySem PySem.Spec PyProof.Rows L2
theorem one_len {p : Int} [PC p] : (1 : Pol p).len = 1 := by show (1 : Pol p).r.length = 1; rw [one_r]; rfl
theorem zero_len {p : Int} [PC p] : (0 : Pol p).len = 0 := (Pol.len0 (0 : Pol p)).mpr rfl
theorem bd_of {p : Int} [PC p] {f S : Pol p} {w : Nat} {s : Int} (F : Fd f S w s) {m : Nat} (ha : ∀ i, (sA f S i).len ≤ 100) (h : ln f S m ≤ 60) : Bd f S m := ⟨fun i _ => ha i, fun i hi => by
  cases i with
  | zero =>
    show (1 : Pol p).len ≤ 100 ∧ (0 : Pol p).len ≤ 100 ∧ (0 : Pol p).len ≤ 100 ∧ (1 : Pol p).len ≤ 100
    rw [one_len, zero_len]
    decide
  | succ i =>
    obtain ⟨k, h1, l, _, h3⟩ := tp_all F i
    have h2 := ln_mono f S hi
    obtain ⟨l', v1, _⟩ := h3.vt
    have a1 := h3.ut.le
    have a2 := v1.le
    have a3 := h3.u1
    have a4 := h3.v1
    omega⟩
/-- a curve and its round -/
structure CR (p : Int) [PC p] (f S : Pol p) (n : Nat) (s : Int) (m : Nat) : Prop where
  cd : CD p f n s
  hS : S = rootS f n s cd.hs
  rd : Rd f S m
section
variable {p : Int} [hp : PC p] {f S : Pol p} {n : Nat} {s : Int} {m : Nat}
theorem CR.fd (h : CR p f S n s m) : Fd f S n s := h.hS ▸ h.cd.fd
theorem CR.bd (h : CR p f S n s m) : Bd f S m := bd_of h.fd (fun i => by have := (h.hS ▸ ch_b h.cd i : ChB f S i).al; omega) h.rd.ln
theorem CR.un (h : CR p f S n s m) : Un f n s (ln f S m) 1 1 (unitP f S m).1 (unitP f S m).2 (nrm f S m) := unit_un h.fd h.rd.m1 h.rd.q1
theorem CR.lpi (h : CR p f S n s m) : ic f S m * lp f S m % p = 1 ∧ 0 < ic f S m ∧ ic f S m < p ∧ 0 < lp f S m ∧ lp f S m < p := by
  have h1 := h.rd.m1
  obtain ⟨i, rfl⟩ : ∃ i, m = i + 1 := ⟨m - 1, by omega⟩
  exact lp_inv h.fd i
theorem CR.nr (h : CR p f S n s m) : 0 < nrm f S m ∧ nrm f S m < p := by
  have h1 := h.un.n0
  have h2 : nrm f S m % p = nrm f S m := mm _
  have h3 := mod_res hp.pos (nrm f S m)
  rw [h2] at h1 h3
  omega
theorem CR.l1 (h : CR p f S n s m) : 1 ≤ ln f S m := ln_pos h.fd m h.rd.m1
theorem CR.fl (h : CR p f S n s m) : f.len ≤ 9 := by have := h.cd.hl; have := h.cd.hn; omega
/-- lengths of the powers -/
theorem pw_lens {u v : Pol p} {w L : Nat} {x y M : Int} (hf : f.Top (w + w) (s * s)) (h : Un f w s L x y u v M) (hy : y * y = 1) (i : Nat) : (pwP f (u, v) i).1.len ≤ i * L + 1 ∧ (pwP f (u, v) i).2.len ≤ i * L + 1 := by
  cases i with
  | zero =>
    show (1 : Pol p).len ≤ _ ∧ (0 : Pol p).len ≤ _
    rw [one_len, zero_len]
    omega
  | succ i =>
    obtain ⟨h1, k, z, h2, h3, _⟩ := un_pow hf h hy i
    have a1 := h1.le
    have a2 := h3.le
    omega
end
abbrev RD (p : Int) [PC p] (f S : Pol p) (m : Nat) : Dt := .round p (rowsF f S m) (sQ f S m).ld (ln f S m : Nat)
section
variable {P : Program} {w : World} {K : PySem.W.Frag} {mg : Str → Option Value} {base : Heap}
theorem p_Round_top (T : Tx K mg) : FnA P w K mg base 3 (He.ma K (cR K) "top") (fun ds R => ∃ (p : Int) (_ : PC p) (f S : Pol p) (m : Nat), ds = [RD p f S m, .int p] ∧ R (.int (lp f S m))) :=
  fn_ok (N := ["self", "prime", "found", "row"]) (ps := ["self", "prime"]) (d_Round_top T) (sc_of (by decide +kernel)) (fun _ _ _ _ _ _ us hl => match us, hl with | [_, _], _ => rfl) (fun _ _ ⟨_, _, _, _, _, e, _⟩ => e ▸ rfl) fun X cg hf ds R ⟨p, hp, f, S, m, ed, hR⟩ => by
    subst ed
    have bf := T.bf
    have h0 := hp.pos
    have h7 := hp.pr.le
    refine r_setD 2 cg v_int ?_
    refine r_forF (xs := List.range m) (g := rowF f S) cg (by rw [← rowsF_D]; exact it_list (v_sl cg (sc_Round T) (sl_Round_own_rows T) f_rows (v_var 0))) (fun i => [.im (RD p f S m), .im (.int p), .im (.int (lp f S i)), .no]) (fun k _ => k + 1) 0 (.eq (.eq (.eq (.no .nil)))) (fun n i hi => ⟨tg_name 3 cg, ?_⟩) ?_
    · obtain ⟨ei, hn⟩ := range_get hi
      subst ei
      rw [cnt_range hn]
      have hl := Pol.ld_rng (sA f S i)
      refine r_setD (d := .int (lp f S (i + 1))) 2 cg (v_mod h0 (v_mul (.inr (small64 (by omega) (by omega))) (v_var 2) (x_ldR T cg (v_item .t (v_var 3) v_int rfl))) (v_var 1)) (r_nil ?_)
      exact .eq (.eq (.eq (.no .nil)))
    · rw [cnt, List.length_range, Nat.zero_add]
      exact r_retD (v_var 2) hR
section
variable {X : Cx} {δ : List Sl} {e1 e2 : Expr} {pos p1 : Pos} {k : Nat} {N : List Str} {sc : Scope} {p : Int} [hp : PC p] {f S : Pol p} {n : Nat} {s : Int} {m : Nat}
theorem x_Round (T : Tx K mg) (cg : Cg P w K mg base k N sc X) {md : Dt} (h : CR p f S n s m) (hmd : md = .non ∨ md = .int 2000) (ha : EvD X δ e1 (.curve p f.r)) (hb : EvD X δ e2 md) (hn : 11 ≤ k := by decide) (hg : Gl X "Round" := by first | rfl | exact Cg.gl (by assumption) rfl)
    (he : starEach [e1, e2] X.env = (false, eval e1 X.env) :: starEach [e2] X.env := by rfl) (he2 : starEach [e2] X.env = (false, eval e2 X.env) :: starEach [] X.env := by rfl) (hpl : (backTo pos (starEach [e2] X.env)).any (·.1) = false := by rfl) : EvD X δ (.Call (.Name "Round" p1) [e1, e2] [] pos) (RD p f S m) := by
  obtain ⟨cd, rfl, rd⟩ := h
  exact v_new cg (mk_Round T) (p_Round_init T) hn (g_Round T) (a_d ha (a_d hb a_nil he2) he) (fun ds e => ⟨fun fs => fs = fR p (rowsF f (rootS f n s cd.hs) m) (sQ f (rootS f n s cd.hs) m).ld (ln f (rootS f n s cd.hs) m : Nat), ⟨p, hp, f, n, s, cd, m, md, e, hmd, rd, rfl⟩, fun fs ef => ⟨⟨.int (sQ f (rootS f n s cd.hs) m).ld, by rw [show fs = _ from ef]; rfl⟩, _, rfl, by
    rw [show fs = _ from ef]
    exact seal_round⟩⟩) hg (by decide) he hpl
theorem x_inv (T : Tx K mg) (cg : Cg P w K mg base k N sc X) {c : Int} (ha : EvD X δ e1 (.int p)) (hb : EvD X δ e2 (.int c)) (h0 : 0 < c) (h1 : c < p) (hn : 4 ≤ k := by decide) (hg : Gl X "residue_inverse" := by first | rfl | exact Cg.gl (by assumption) rfl)
    (he : starEach [e1, e2] X.env = (false, eval e1 X.env) :: starEach [e2] X.env := by rfl) (he2 : starEach [e2] X.env = (false, eval e2 X.env) :: starEach [] X.env := by rfl) (hpl : (backTo pos (starEach [e2] X.env)).any (·.1) = false := by rfl) : EvD X δ (.Call (.Name "residue_inverse" p1) [e1, e2] [] pos) (.int (invI p c)) :=
  v_fn cg (p_residue_inverse T) (d_residue_inverse T) (g_residue_inverse T) (a_d ha (a_d hb a_nil he2) he) ⟨p, c, rfl, hp.pr, h0, h1, rfl⟩ hn hg (by decide) he hpl
end
theorem p_unit_norm (T : Tx K mg) : FnA P w K mg base 5 (He.ma K (cR K) "unit_norm") (fun ds R => ∃ (p : Int) (_ : PC p) (f S : Pol p) (n : Nat) (s : Int) (m : Nat), ds = [RD p f S m, .int p] ∧ CR p f S n s m ∧ R (.int (nrm f S m))) :=
  fn_ok (N := ["self", "prime", "side", "part"]) (ps := ["self", "prime"]) (d_Round_unit_norm T) (sc_of (by decide +kernel)) (fun _ _ _ _ _ _ us hl => match us, hl with | [_, _], _ => rfl) (fun _ _ ⟨_, _, _, _, _, _, _, e, _⟩ => e ▸ rfl) fun X cg hf ds R ⟨p, hp, f, S, n, s, m, ed, h, hR⟩ => by
    subst ed
    have bf := T.bf
    have h0 := hp.pos
    have h7 := hp.pr.le
    have hl := h.lpi
    have hq := Pol.ld_rng (sQ f S m)
    have hrows : ((rowsD p (rowsF f S m)).length : Int) = m := by rw [rowsF_D, List.length_map, List.length_range]
    refine r_setD (d := .int (sg m * (sQ f S m).ld)) 2 cg (v_ifExp (t_eqI (v_mod (by decide) (v_len .l (v_sl cg (sc_Round T) (sl_Round_own_rows T) f_rows (v_var 0))) v_int) v_int) (fun hh => ?_) fun hh => ?_) ?_
    · have hh := of_decide_eq_true hh
      rw [hrows] at hh
      refine (v_sl cg (sc_Round T) (sl_Round_own_last T) f_last (v_var 0)).is ?_
      rw [sg_par, if_pos (by omega), Int.one_mul]
    · have hh := of_decide_eq_false hh
      rw [hrows] at hh
      refine (v_neg (v_sl cg (sc_Round T) (sl_Round_own_last T) f_last (v_var 0))).is ?_
      rw [sg_par, if_neg (by omega), Int.neg_mul, Int.one_mul]
    · refine r_setD (d := .int (ic f S m)) 3 cg (x_inv T cg (v_var 1) (v_meth cg (sc_Round T) (mm_Round_top T) (p_Round_top T) (by decide) i_round (v_var 0) (a_d (v_var 1) a_nil) fun ds e => ⟨p, hp, f, S, m, by rw [e], rfl⟩) hl.2.2.2.1 hl.2.2.2.2) ?_
      exact r_retD (v_mod h0 (v_mul (.inr (small64 (by omega) (by omega))) (v_mul (.inr (small64 (by omega) (by omega))) (v_var 2) (v_var 3)) (v_var 3)) (v_var 1)) hR
def upD {p : Int} [PC p] (f S : Pol p) (m : Nat) : Dt := .tup [.poly p (unitP f S m).1.r, .poly p (unitP f S m).2.r]
theorem p_unit_pair (T : Tx K mg) : FnA P w K mg base 10 (He.ga K "unit_pair") (fun ds R => ∃ (p : Int) (_ : PC p) (f S : Pol p) (n : Nat) (s : Int) (m : Nat), ds = [.curve p f.r, RD p f S m] ∧ CR p f S n s m ∧ R (upD f S m)) :=
  fn_ok (N := ["curve", "told"]) (ps := ["curve", "told"]) (d_unit_pair T) (sc_of (by decide +kernel)) (fun _ _ _ _ _ _ us hl => match us, hl with | [_, _], _ => rfl) (fun _ _ ⟨_, _, _, _, _, _, _, e, _⟩ => e ▸ rfl) fun X cg hf ds R ⟨p, hp, f, S, n, s, m, ed, h, hR⟩ => by
    subst ed
    have bf := T.bf
    have hl := h.lpi
    have hb := h.bd.u m (Nat.le_refl _)
    refine r_ret (v_fn cg (p_scaled_pair T) (d_scaled_pair T) (g_scaled_pair T) (a_d (d := .tup [.poly p (sU f S m).1.1.r, .poly p (sU f S m).1.2.r]) (v_fn cg (p_ends_of T) (d_ends_of T) (g_ends_of T) (a_d (v_var 0) (a_d (d := .lst ((List.range m).map (rowF f S))) ((v_sl cg (sc_Round T) (sl_Round_own_rows T) f_rows (v_var 1)).is (by rw [rowsF_D])) a_nil)) ⟨p, hp, f, S, m, rfl, h.bd, rfl⟩) (a_d (d := .int (ic f S m)) (x_inv T cg (x_cprime T cg (v_var 0)) (v_meth cg (sc_Round T) (mm_Round_top T) (p_Round_top T) (by decide) i_round (v_var 1) (a_d (x_cprime T cg (v_var 0)) a_nil) fun ds e => ⟨p, hp, f, S, m, by rw [e], rfl⟩) hl.2.2.2.1 hl.2.2.2.2) a_nil)) ⟨p, hp, (sU f S m).1.1, (sU f S m).1.2, ic f S m, rfl, by omega, by omega, by omega, hl.2.2.1, hR⟩)
theorem p_length_of (T : Tx K mg) : FnA P w K mg base 12 (He.ga K "length_of") (fun ds R => ∃ (p : Int) (_ : PC p) (f S : Pol p) (n : Nat) (s : Int) (m : Nat), ds = [.curve p f.r] ∧ CR p f S n s m ∧ R (.int (ln f S m : Nat))) :=
  fn_ok (N := ["curve"]) (ps := ["curve"]) (d_length_of T) (sc_of (by decide +kernel)) (fun _ _ _ _ _ _ us hl => match us, hl with | [_], _ => rfl) (fun _ _ ⟨_, _, _, _, _, _, _, e, _⟩ => e ▸ rfl) fun X cg hf ds R ⟨p, hp, f, S, n, s, m, ed, h, hR⟩ => by
    subst ed
    have bf := T.bf
    refine r_expr (R := fun _ => True) (v_fn cg (p_require_two T) (d_require_two T) (g_require_two T) (a_d (v_var 0) a_nil) ⟨p, f.r, rfl, h.cd.two, trivial⟩) ?_
    exact r_retD (v_sl cg (sc_Round T) (sl_Round_own_length T) f_length (x_Round T cg h (.inr rfl) (v_var 0) (v_gi cg (g_MAX_LENGTH T)))) hR
theorem up_len {p : Int} [hp : PC p] {f S : Pol p} {n : Nat} {s : Int} {m : Nat} (h : CR p f S n s m) : (unitP f S m).1.len ≤ 100 ∧ (unitP f S m).2.len ≤ 100 := by
  have hb := h.bd.u m (Nat.le_refl _)
  have hl := h.lpi
  have n0 : ic f S m % p ≠ 0 := sm_ne hl.2.1 hl.2.2.1
  exact ⟨Nat.le_trans (Nat.le_of_eq (Pol.scl_len n0 _)) hb.1, Nat.le_trans (Nat.le_of_eq (Pol.scl_len n0 _)) hb.2.1⟩
theorem p_least_unit (T : Tx K mg) : FnA P w K mg base 14 (He.ga K "least_unit") (fun ds R => ∃ (p : Int) (_ : PC p) (f S : Pol p) (n : Nat) (s : Int) (m : Nat), ds = [.curve p f.r] ∧ CR p f S n s m ∧ R (.fn p f.r (unitP f S m).1.r (unitP f S m).2.r (1 : Pol p).r)) :=
  fn_ok (N := ["curve"]) (ps := ["curve"]) (d_least_unit T) (sc_of (by decide +kernel)) (fun _ _ _ _ _ _ us hl => match us, hl with | [_], _ => rfl) (fun _ _ ⟨_, _, _, _, _, _, _, e, _⟩ => e ▸ rfl) fun X cg hf ds R ⟨p, hp, f, S, n, s, m, ed, h, hR⟩ => by
    subst ed
    have bf := T.bf
    have ul := up_len h
    refine r_expr (R := fun _ => True) (v_fn cg (p_require_two T) (d_require_two T) (g_require_two T) (a_d (v_var 0) a_nil) ⟨p, f.r, rfl, h.cd.two, trivial⟩) ?_
    exact r_ret (v_fn cg (p_function_of T) (d_function_of T) (g_function_of T) (a_d (v_var 0) (a_d (d := upD f S m) (v_fn cg (p_unit_pair T) (d_unit_pair T) (g_unit_pair T) (a_d (v_var 0) (a_d (x_Round T cg h (.inr rfl) (v_var 0) (v_gi cg (g_MAX_LENGTH T))) a_nil)) ⟨p, hp, f, S, n, s, m, rfl, h, rfl⟩) a_nil)) ⟨p, hp, f, (unitP f S m).1, (unitP f S m).2, rfl, h.fl, by omega, by omega, hR⟩)
end
end DL

namespace DL
open PySem PySem.Spec PyProof.Rows L2
section
variable {P : Program} {w : World} {K : PySem.W.Frag} {mg : Str → Option Value} {base : Heap}
/-! ### whole functions and units -/
def WV (p : Int) (f : List Int) (v : Dt) (q : Bool) : Prop := (∃ a b c, v = .fn p f a b c ∧ q = decide ((c.length : Int) - 1 = 0)) ∨ ((v = .non ∨ (∃ l, v = .tup l) ∨ ∃ r, v = .poly p r) ∧ q = false)
theorem p_is_whole_chains (T : Tx K mg) : FnA P w K mg base 4 (He.ga K "is_whole_chains") (fun ds R => ∃ p f v q, ds = [.curve p f, v] ∧ WV p f v q ∧ R (.bl q)) :=
  fn_ok (N := ["curve", "value"]) (ps := ["curve", "value"]) (d_is_whole_chains T) (sc_of (by decide +kernel)) (fun _ _ _ _ _ _ us hl => match us, hl with | [_, _], _ => rfl) (fun _ _ ⟨_, _, _, _, e, _⟩ => e ▸ rfl) fun X cg hf ds R ⟨p, f, v, q, ed, hv, hR⟩ => by
    subst ed
    have bf := T.bf
    rcases hv with ⟨a, b, c, ev, eq⟩ | ⟨ev, eq⟩
    · subst ev eq
      refine r_retD ((v_and (k := true) (v_io cg (sc_Function T) (si_Function T) (ki_Function_Function T) (g_Function T) i_fn (v_var 1)) fun _ => v_and (k := decide (f = f)) (m := decide ((c.length : Int) - 1 = 0)) (x_eqC T cg (x_fcurve T cg (v_var 1)) (v_var 0)) fun _ => v_one (v_eqI (x_degR T cg (x_fc T cg (v_var 1))) v_int)).is ?_) hR
      rw [decide_eq_true rfl]
      rfl
    · subst eq
      rcases ev with e | ⟨l, e⟩ | ⟨r, e⟩
      · subst e
        exact r_retD ((v_and (k := false) (m := false) (v_ito cg (kt_NoneType_Function T) (g_Function T) (v_var 1)) fun h => nomatch h).is rfl) hR
      · subst e
        exact r_retD ((v_and (k := false) (m := false) (v_ito cg (kt_tuple_Function T) (g_Function T) (v_var 1)) fun h => nomatch h).is rfl) hR
      · subst e
        exact r_retD ((v_and (k := false) (m := false) (v_io cg (sc_Poly T) (si_Poly T) (ki_Poly_Function T) (g_Function T) i_poly (v_var 1)) fun h => nomatch h).is rfl) hR
theorem p_norm_in (T : Tx K mg) : FnA P w K mg base 9 (He.ga K "norm_in") (fun ds R => ∃ (p : Int) (_ : PC p) (f a b : Pol p) (c : List Int), ds = [.curve p f.r, .fn p f.r a.r b.r c] ∧ f.len ≤ 9 ∧ a.len ≤ 1000 ∧ b.len ≤ 1000 ∧ R (.poly p (a * a - f * (b * b)).r)) :=
  fn_ok (N := ["curve", "function"]) (ps := ["curve", "function"]) (d_norm_in T) (sc_of (by decide +kernel)) (fun _ _ _ _ _ _ us hl => match us, hl with | [_, _], _ => rfl) (fun _ _ ⟨_, _, _, _, _, _, e, _⟩ => e ▸ rfl) fun X cg hf ds R ⟨p, hp, f, a, b, c, ed, lf, la, lb, hR⟩ => by
    subst ed
    have bf := T.bf
    have m1 := Pol.mul_le a a
    have m2 := Pol.mul_le f b
    have m3 := Pol.mul_le (f * b) b
    have e : a * a - f * (b * b) = a * a - f * b * b := by grind
    rw [e] at hR
    exact r_retD (x_sub T cg (x_mul T cg (x_fa T cg (v_var 1)) (x_fa T cg (v_var 1)) (by omega) (by omega)) (x_mul T cg (x_mul T cg (x_cf T cg (v_var 0)) (x_fb T cg (v_var 1)) (by omega) (by omega)) (x_fb T cg (v_var 1)) (by omega) (by omega)) (by omega) (by omega)) hR
/-- whether a value is a unit, by its norm -/
def UV {p : Int} [PC p] (f : Pol p) (v : Dt) (q : Bool) : Prop := (∃ a b c : Pol p, v = .fn p f.r a.r b.r c.r ∧ a.len ≤ 1000 ∧ b.len ≤ 1000 ∧ c.len ≤ 1000 ∧ q = (decide ((c.len : Int) - 1 = 0) && decide (((a * a - f * (b * b)).len : Int) - 1 = 0))) ∨ ((v = .non ∨ (∃ l, v = .tup l) ∨ ∃ r : Pol p, v = .poly p r.r) ∧ q = false)
def S_uv (C : Int → List Int → Prop) : Sd := fun ds R => ∃ (p : Int) (_ : PC p) (f : Pol p) (v : Dt) (q : Bool), ds = [.curve p f.r, v] ∧ f.len ≤ 9 ∧ C p f.r ∧ UV f v q ∧ R (.bl q)
theorem p_is_unit_of (T : Tx K mg) : FnA P w K mg base 10 (He.ga K "is_unit_of") (S_uv fun _ _ => True) :=
  fn_ok (N := ["curve", "value"]) (ps := ["curve", "value"]) (d_is_unit_of T) (sc_of (by decide +kernel)) (fun _ _ _ _ _ _ us hl => match us, hl with | [_, _], _ => rfl) (fun _ _ ⟨_, _, _, _, _, e, _⟩ => e ▸ rfl) fun X cg hf ds R ⟨p, hp, f, v, q, ed, lf, _, hv, hR⟩ => by
    subst ed
    have bf := T.bf
    rcases hv with ⟨a, b, c, ev, la, lb, lc, eq⟩ | ⟨ev, eq⟩
    · subst ev eq
      exact r_retD (v_and (k := decide ((c.len : Int) - 1 = 0)) (m := decide (((a * a - f * (b * b)).len : Int) - 1 = 0)) (v_fn cg (p_is_whole_chains T) (d_is_whole_chains T) (g_is_whole_chains T) (a_d (v_var 0) (a_d (v_var 1) a_nil)) ⟨p, f.r, _, _, rfl, .inl ⟨a.r, b.r, c.r, rfl, rfl⟩, rfl⟩) fun _ => v_one (v_eqI (x_degR (r := (a * a - f * (b * b)).r) T cg (v_fn cg (p_norm_in T) (d_norm_in T) (g_norm_in T) (a_d (v_var 0) (a_d (v_var 1) a_nil)) ⟨p, hp, f, a, b, c.r, rfl, lf, la, lb, rfl⟩)) v_int)) hR
    · subst eq
      exact r_retD ((v_and (k := false) (m := false) (v_fn cg (p_is_whole_chains T) (d_is_whole_chains T) (g_is_whole_chains T) (a_d (v_var 0) (a_d (v_var 1) a_nil)) ⟨p, f.r, _, _, rfl, .inr ⟨ev.imp_right fun h => h.imp_right fun ⟨r, e⟩ => ⟨r.r, e⟩, rfl⟩, rfl⟩) fun h => nomatch h).is rfl) hR
theorem p_is_unit (T : Tx K mg) : FnA P w K mg base 11 (He.ga K "is_unit") (S_uv Two) :=
  fn_ok (N := ["curve", "value"]) (ps := ["curve", "value"]) (d_is_unit T) (sc_of (by decide +kernel)) (fun _ _ _ _ _ _ us hl => match us, hl with | [_, _], _ => rfl) (fun _ _ ⟨_, _, _, _, _, e, _⟩ => e ▸ rfl) fun X cg hf ds R ⟨p, hp, f, v, q, ed, lf, ht, hv, hR⟩ => by
    subst ed
    have bf := T.bf
    refine r_expr (R := fun _ => True) (v_fn cg (p_require_two T) (d_require_two T) (g_require_two T) (a_d (v_var 0) a_nil) ⟨p, f.r, rfl, ht, trivial⟩) ?_
    exact r_ret (v_fn cg (p_is_unit_of T) (d_is_unit_of T) (g_is_unit_of T) (a_d (v_var 0) (a_d (v_var 1) a_nil)) ⟨p, hp, f, v, q, rfl, lf, trivial, hv, hR⟩)
theorem abs_nat (i : Int) : (if i < 0 then -i else i) = ((i.natAbs : Nat) : Int) := by split <;> omega
theorem v_absN {X : Cx} {δ : List Sl} {e : Expr} {pos p : Pos} {i : Int} (ha : EvD X δ e (.int i)) (hm : X.mg "abs" = none := by first | assumption | exact Cg.bf (by assumption) (by assumption) rfl) (hg : Gl X "abs" := by first | rfl | exact Cg.gl (by assumption) rfl) (he : starEach [e] X.env = (false, eval e X.env) :: starEach [] X.env := by rfl) (hpl : (backTo pos (starEach [] X.env)).any (·.1) = false := by rfl) :
    EvD X δ (.Call (.Name "abs" p) [e] [] pos) (.int ((i.natAbs : Nat) : Int)) := (v_abs ha hm hg he hpl).is (by rw [abs_nat])
/-! ### powers -/
abbrev mdU {p : Int} [PC p] (f S : Pol p) (m : Nat) (t : Int) : Pol p × Pol p := mdP f (unitP f S m) (nrm f S m) t
theorem b_power (T : Tx K mg) {X : Cx} (cg : Cg P w K mg base 13 ["curve", "number", "told", "unit", "found", "turn"] (SC 94) X) {p : Int} [hp : PC p] {f u v : Pol p} {w' L : Nat} {s x y M t : Int} {dt : Dt} (hf : f.Top (w' + w') (s * s)) (lf : f.len ≤ 9) (h : Un f w' s L x y u v M) (hy : y * y = 1) (ht : t.natAbs ≤ 60) (hL : t.natAbs * L ≤ 500) (lu : u.len ≤ 1000 ∧ v.len ≤ 1000) {R : Dt → Prop}
    (hR : R (.fn p f.r (pwP f (u, v) t.natAbs).1.r (pwP f (u, v) t.natAbs).2.r (1 : Pol p).r)) :
    RunS X [.im (.curve p f.r), .im (.int t), .im dt, .im (.tup [.poly p u.r, .poly p v.r]), .im (.tup [.poly p (1 : Pol p).r, .poly p (0 : Pol p).r]), .no] ((BD 94).drop 6) { rt := R, nx := fun _ => R .non } := by
  have bf := T.bf
  have lens : ∀ i, i ≤ t.natAbs → (pwP f (u, v) i).1.len ≤ 1000 ∧ (pwP f (u, v) i).2.len ≤ 1000 := fun i hi => by
    have h1 := pw_lens hf h hy i
    have h2 : i * L ≤ t.natAbs * L := Nat.mul_le_mul_right _ hi
    omega
  let st : Nat → List Sl := fun i => [.im (.curve p f.r), .im (.int t), .im dt, .im (.tup [.poly p u.r, .poly p v.r]), .im (.tup [.poly p (pwP f (u, v) i).1.r, .poly p (pwP f (u, v) i).2.r]), .no]
  refine r_forF (xs := rangeD 0 1 t.natAbs) (g := Dt.int) cg ((it_range1 (v_absN (v_var 1)) (range62 (by omega) (by omega))).is (by rw [Int.toNat_natCast])) st (fun k _ => k + 1) 0 (.eq (.eq (.eq (.eq (.eq (.no .nil)))))) (fun n i hi => ⟨tg_name 5 cg, ?_⟩) ?_
  · have hn := (List.getElem?_eq_some_iff.mp hi).1
    rw [rangeD_len] at hn
    rw [cnt, List.length_take, rangeD_len, Nat.zero_add, Nat.min_eq_left (Nat.le_of_lt hn)]
    have hl := lens n (by omega)
    refine r_setD (d := .tup [.poly p (pwP f (u, v) (n + 1)).1.r, .poly p (pwP f (u, v) (n + 1)).2.r]) 4 cg (v_fn cg (p_product_of T) (d_product_of T) (g_product_of T) (a_d (v_var 0) (a_d (v_var 4) (a_d (v_var 3) a_nil))) ⟨p, hp, f, (pwP f (u, v) n).1, (pwP f (u, v) n).2, u, v, rfl, lf, hl.1, hl.2, lu.1, lu.2, rfl⟩) (r_nil ?_)
    exact .eq (.eq (.eq (.eq (.eq (.no .nil)))))
  · rw [cnt, rangeD_len, Nat.zero_add]
    have hl := lens t.natAbs (Nat.le_refl _)
    exact r_ret (v_fn cg (p_function_of T) (d_function_of T) (g_function_of T) (a_d (v_var 0) (a_d (v_var 4) a_nil)) ⟨p, hp, f, _, _, rfl, lf, hl.1, hl.2, hR⟩)
theorem p_unit_power (T : Tx K mg) : FnA P w K mg base 14 (He.ga K "unit_power") (fun ds R => ∃ (p : Int) (_ : PC p) (f S : Pol p) (n : Nat) (s : Int) (m : Nat) (t : Int), ds = [.curve p f.r, .int t] ∧ CR p f S n s m ∧ t.natAbs ≤ 60 ∧ t.natAbs * ln f S m ≤ 500 ∧ R (.fn p f.r (mdU f S m t).1.r (mdU f S m t).2.r (1 : Pol p).r)) :=
  fn_ok (N := ["curve", "number", "told", "unit", "found", "turn"]) (ps := ["curve", "number"]) (d_unit_power T) (sc_of (by decide +kernel)) (fun _ _ _ _ _ _ us hl => match us, hl with | [_, _], _ => rfl) (fun _ _ ⟨_, _, _, _, _, _, _, _, e, _⟩ => e ▸ rfl) fun X cg hf ds R ⟨p, hp, f, S, n, s, m, t, ed, h, ht, hL, hR⟩ => by
    subst ed
    have bf := T.bf
    have ul := up_len h
    have hn := h.nr
    have hr := h.rd.ln
    obtain ⟨x, y, M, hx, hy', hy, hM, hu⟩ := md_un (u := (unitP f S m).1) (v := (unitP f S m).2) h.un hn t
    refine r_expr (R := fun _ => True) (v_fn cg (p_require_two T) (d_require_two T) (g_require_two T) (a_d (v_var 0) a_nil) ⟨p, f.r, rfl, h.cd.two, trivial⟩) ?_
    refine r_expr (R := fun _ => True) (v_fn cg (p_require_within T) (d_require_within T) (g_require_within T) (a_d (v_var 1) (a_d (v_neg (v_gi cg (g_MAX_POWER_chains T))) (a_d (v_gi cg (g_MAX_POWER_chains T)) a_nil))) ⟨t, -60, 60, rfl, by omega, by omega, by omega, by omega, trivial⟩) ?_
    refine r_setD 2 cg (x_Round T cg h (.inr rfl) (v_var 0) (v_gi cg (g_MAX_LENGTH T))) ?_
    have hmul : ((ln f S m : Nat) : Int) * ((t.natAbs : Nat) : Int) = ((t.natAbs * ln f S m : Nat) : Int) := by rw [Int.natCast_mul, Int.mul_comm]
    refine r_if (k := false) ((t_gt (v_mul (i := ((ln f S m : Nat) : Int)) (j := ((t.natAbs : Nat) : Int)) (.inl (small64 (by omega) (by omega))) (v_sl cg (sc_Round T) (sl_Round_own_length T) f_length (v_var 2)) (v_absN (v_var 1))) (v_gi cg (g_MAX_LENGTH T))).is ?_) (fun hh => nomatch hh) fun _ => r_nil ?_
    · rw [hmul]
      exact decide_eq_false (by omega)
    refine r_par2 3 4 cg (s_im (d := upD f S m) (v_fn cg (p_unit_pair T) (d_unit_pair T) (g_unit_pair T) (a_d (v_var 0) (a_d (v_var 2) a_nil)) ⟨p, hp, f, S, n, s, m, rfl, h, rfl⟩) (s_im (d := .tup [.poly p (1 : Pol p).r, .poly p (0 : Pol p).r]) (v_fn cg (p_ends_of T) (d_ends_of T) (g_ends_of T) (a_d (v_var 0) (a_d (v_L (l_lst a_nil)) a_nil)) ⟨p, hp, f, S, 0, rfl, ⟨fun i hi => absurd hi (Nat.not_lt_zero _), fun i hi => h.bd.u i (by omega)⟩, rfl⟩) s_nil)) ?_
    by_cases hneg : t < 0
    · rw [if_pos hneg] at hu
      refine r_if (k := true) ((t_lt (v_var 1) v_int).is (decide_eq_true hneg)) (fun _ => ?_) fun hh => nomatch hh
      have ni := inv_ok hp.pr hn.1 hn.2
      have hng : ngP (unitP f S m) (nrm f S m) = ngP ((unitP f S m).1, (unitP f S m).2) (nrm f S m) := rfl
      have n1 : (-(unitP f S m).2).len ≤ 100 := Pol.neg_len _ ul.2
      have n0 : invI p (nrm f S m) % p ≠ 0 := sm_ne ni.2.2.1 ni.2.2.2
      refine r_setD (d := .tup [.poly p (ngP ((unitP f S m).1, (unitP f S m).2) (nrm f S m)).1.r, .poly p (ngP ((unitP f S m).1, (unitP f S m).2) (nrm f S m)).2.r]) 3 cg (v_fn cg (p_scaled_pair T) (d_scaled_pair T) (g_scaled_pair T) (a_d (v_tupD (a_d (v_item .t (v_var 3) v_int rfl) (a_d (x_neg T cg (v_item .t (v_var 3) v_int rfl) (by omega)) a_nil))) (a_d (x_inv T cg (x_cprime T cg (v_var 0)) (v_meth cg (sc_Round T) (mm_Round_unit_norm T) (p_unit_norm T) (by decide) i_round (v_var 2) (a_d (x_cprime T cg (v_var 0)) a_nil) fun ds e => ⟨p, hp, f, S, n, s, m, by rw [e], h, rfl⟩) hn.1 hn.2) a_nil)) ⟨p, hp, (unitP f S m).1, -(unitP f S m).2, invI p (nrm f S m), rfl, by omega, by omega, by omega, ni.2.2.2, rfl⟩) (r_nil ?_)
      refine b_power T cg h.fd.ft h.fl hu hy ht hL ⟨?_, ?_⟩ ?_
      · exact Nat.le_trans (Nat.le_of_eq (Pol.scl_len n0 _)) (Nat.le_trans ul.1 (by decide))
      · exact Nat.le_trans (Nat.le_of_eq (Pol.scl_len n0 _)) (Nat.le_trans n1 (by decide))
      · unfold mdU mdP at hR
        rw [if_pos hneg] at hR
        exact hR
    · rw [if_neg hneg] at hu
      refine r_if (k := false) ((t_lt (v_var 1) v_int).is (decide_eq_false hneg)) (fun hh => nomatch hh) fun _ => r_nil ?_
      refine b_power T cg h.fd.ft h.fl hu hy ht hL ⟨Nat.le_trans ul.1 (by decide), Nat.le_trans ul.2 (by decide)⟩ ?_
      unfold mdU mdP at hR
      rw [if_neg hneg] at hR
      exact hR
end
end DL

namespace DL
open PySem PySem.Spec PyProof.Rows L2
section
variable {P : Program} {w : World} {K : PySem.W.Frag} {mg : Str → Option Value} {base : Heap}
theorem p_unit_parts (T : Tx K mg) : FnA P w K mg base 13 (He.ga K "unit_parts") (fun ds R => ∃ (p : Int) (_ : PC p) (f S : Pol p) (n : Nat) (s : Int) (m : Nat) (a b : Pol p), ds = [.curve p f.r, .fn p f.r a.r b.r (1 : Pol p).r] ∧ CR p f S n s m ∧ a.len ≤ 1000 ∧ b.len ≤ 1000 ∧ (a * a - f * (b * b)).len = 1 ∧ (b ≠ 0 → 1 ≤ (a.len - 1) / ln f S m) ∧ R (.tup [.int (partsP p s (ln f S m) (nrm f S m) a.r b.r).1, .int (partsP p s (ln f S m) (nrm f S m) a.r b.r).2])) :=
  fn_ok (N := ["curve", "unit", "prime", "top", "told", "exponent", "residue"]) (ps := ["curve", "unit"]) (d_unit_parts T) (sc_of (by decide +kernel)) (fun _ _ _ _ _ _ us hl => match us, hl with | [_, _], _ => rfl) (fun _ _ ⟨_, _, _, _, _, _, _, _, _, e, _⟩ => e ▸ rfl) fun X cg hf ds R ⟨p, hp, f, S, n, s, m, a, b, ed, h, la, lb, hu, he, hR⟩ => by
    subst ed
    have bf := T.bf
    have h0 := hp.pos
    have h7 := hp.pr.le
    have hn := h.nr
    have hL := h.l1
    have hL2 := h.rd.ln
    have al := Pol.ld_rng a
    have bl := Pol.ld_rng b
    have hs := h.cd.hs
    refine r_expr (R := fun _ => True) (v_fn cg (p_require_two T) (d_require_two T) (g_require_two T) (a_d (v_var 0) a_nil) ⟨p, f.r, rfl, h.cd.two, trivial⟩) ?_
    refine r_if (k := false) ((t_not (t_val (v_fn cg (p_is_unit_of T) (d_is_unit_of T) (g_is_unit_of T) (a_d (v_var 0) (a_d (v_var 1) a_nil)) ⟨p, hp, f, _, true, rfl, h.fl, trivial, .inl ⟨a, b, 1, rfl, la, lb, by rw [one_len]; decide, ?_⟩, rfl⟩))).is rfl) (fun hh => nomatch hh) fun _ => r_nil ?_
    · rw [one_len, hu]; rfl
    refine r_par2 2 3 cg (s_im (x_cprime T cg (v_var 0)) (s_im (x_ldR T cg (x_fa T cg (v_var 1))) s_nil)) ?_
    by_cases hb : b.r = []
    · refine r_if (k := true) ((t_val (x_zeroR T cg (x_fb T cg (v_var 1)))).is (decide_eq_true hb)) (fun _ => ?_) fun hh => nomatch hh
      refine r_retD (v_tupD (a_d (v_var 3) (a_d v_int a_nil))) ?_
      unfold partsP at hR
      rw [if_pos hb] at hR
      exact hR
    · refine r_if (k := false) ((t_val (x_zeroR T cg (x_fb T cg (v_var 1)))).is (decide_eq_false hb)) (fun hh => nomatch hh) fun _ => r_nil ?_
      have he := he fun z => hb ((Pol.nil_iff b).mpr z)
      have ha1 : 1 ≤ a.len := by
        by_cases z : a.len - 1 = 0
        · rw [z, Nat.zero_div] at he
          omega
        · omega
      unfold partsP at hR
      rw [if_neg hb] at hR
      refine r_setD 4 cg (x_Round T cg h (.inl rfl) (v_var 0) v_non) ?_
      have ee : (((a.r.length : Nat) : Int) - 1) / ((ln f S m : Nat) : Int) = (((a.len - 1) / ln f S m : Nat) : Int) := by
        rw [Int.natCast_ediv]
        congr 1
        have : a.r.length = a.len := rfl
        omega
      have hR' : R (.tup [.int (if (a.ld + s * b.ld) % p = 0 then (a.ld * invI p (2 ^ ((a.len - 1) / ln f S m - 1) % p) % p * (nrm f S m ^ ((a.len - 1) / ln f S m) % p) % p, -(((a.len - 1) / ln f S m : Nat) : Int)) else (a.ld * invI p (2 ^ ((a.len - 1) / ln f S m - 1) % p) % p, (((a.len - 1) / ln f S m : Nat) : Int))).1, .int (if (a.ld + s * b.ld) % p = 0 then (a.ld * invI p (2 ^ ((a.len - 1) / ln f S m - 1) % p) % p * (nrm f S m ^ ((a.len - 1) / ln f S m) % p) % p, -(((a.len - 1) / ln f S m : Nat) : Int)) else (a.ld * invI p (2 ^ ((a.len - 1) / ln f S m - 1) % p) % p, (((a.len - 1) / ln f S m : Nat) : Int))).2]) := hR
      generalize (a.len - 1) / ln f S m = e at *
      refine r_setD (d := .int (e : Int)) 5 cg ((v_fdiv (j := ((ln f S m : Nat) : Int)) ⟨by omega, by omega⟩ (x_degR T cg (x_fa T cg (v_var 1))) (v_sl cg (sc_Round T) (sl_Round_own_length T) f_length (v_var 4))).is (by rw [ee])) ?_
      have t2 := two_pow (p := p) (e - 1)
      have iv := inv_ok hp.pr t2.1 t2.2
      refine r_setD (d := .int (a.ld * invI p (2 ^ (e - 1) % p) % p)) 6 cg (v_mod h0 (v_mul (.inl (small64 (by omega) (by omega))) (v_var 3) (x_inv (c := 2 ^ (e - 1) % p) T cg (v_var 2) (v_fn cg (p_residue_power T) (d_residue_power T) (g_residue_power T) (a_d (v_var 2) (a_d v_int (a_d (d := .int ((e - 1 : Nat) : Int)) ((v_sub (v_var 5) v_int).is (by congr 1; omega)) a_nil))) ⟨p, 2, e - 1, rfl, hp.pr, by decide, by decide, rfl⟩) t2.1 t2.2)) (v_var 2)) ?_
      have rr := mod_res h0 (a.ld * invI p (2 ^ (e - 1) % p))
      by_cases hz : (a.ld + s * b.ld) % p = 0
      · rw [if_pos hz] at hR'
        refine r_if (k := false) ((t_neI (v_mod h0 (v_add (v_var 3) (v_mul (i := s) (j := b.ld) (.inl (small64 (by omega) (by omega))) (v_item .t (v_item .t (x_crims T cg h.cd.two (v_var 0)) v_int (rims_at h.cd.root)) v_int rfl) (x_ldR T cg (x_fb T cg (v_var 1))))) (v_var 2)) v_int).is (by rw [decide_eq_true hz]; rfl)) (fun hh => nomatch hh) fun _ => r_nil ?_
        exact r_retD (v_tupD (a_d (v_mod h0 (v_mul (.inl (small64 (by omega) (by omega))) (v_var 6) (v_fn cg (p_residue_power T) (d_residue_power T) (g_residue_power T) (a_d (v_var 2) (a_d (d := .int (nrm f S m)) (v_meth cg (sc_Round T) (mm_Round_unit_norm T) (p_unit_norm T) (by decide) i_round (v_var 4) (a_d (v_var 2) a_nil) fun ds e => ⟨p, hp, f, S, n, s, m, by rw [e], h, rfl⟩) (a_d (v_var 5) a_nil))) ⟨p, nrm f S m, e, rfl, hp.pr, by omega, by omega, rfl⟩)) (v_var 2)) (a_d (v_neg (v_var 5)) a_nil))) hR'
      · rw [if_neg hz] at hR'
        refine r_if (k := true) ((t_neI (v_mod h0 (v_add (v_var 3) (v_mul (i := s) (j := b.ld) (.inl (small64 (by omega) (by omega))) (v_item .t (v_item .t (x_crims T cg h.cd.two (v_var 0)) v_int (rims_at h.cd.root)) v_int rfl) (x_ldR T cg (x_fb T cg (v_var 1))))) (v_var 2)) v_int).is (by rw [decide_eq_false hz]; rfl)) (fun _ => ?_) fun hh => nomatch hh
        exact r_retD (v_tupD (a_d (v_var 6) (a_d (v_var 5) a_nil))) hR'
end
end DL

namespace DL
/-! ### what the law's own functions compute -/
def plusL (p : Int) (a b : List Int) : List Int := trimI (((a ++ List.replicate (max a.length b.length - a.length) 0).zip (b ++ List.replicate (max a.length b.length - b.length) 0)).map fun (q : Int × Int) => (q.1 + q.2) % p)
theorem getI_pad (a : List Int) (n i : Nat) : getI (a ++ List.replicate n 0) i = getI a i := by
  unfold getI
  rw [List.getElem?_append]
  split
  · rfl
  · rw [List.getElem?_replicate, List.getElem?_eq_none (l := a) (by omega)]
    split <;> rfl
theorem getI_zipAdd (p : Int) (a b : List Int) (h : a.length = b.length) (i : Nat) : getI ((a.zip b).map fun q => (q.1 + q.2) % p) i = (getI a i + getI b i) % p := by
  by_cases hi : i < a.length
  · have e : (a.zip b)[i]? = some (a[i], b[i]'(by omega)) := List.getElem?_zip_eq_some.mpr ⟨List.getElem?_eq_getElem hi, List.getElem?_eq_getElem (by omega)⟩
    unfold getI
    rw [List.getElem?_map, e, List.getElem?_eq_getElem hi, List.getElem?_eq_getElem (by omega : i < b.length)]
    rfl
  · rw [getI_ge (r := a) (by omega), getI_ge (r := b) (by omega), getI_ge (by rw [List.length_map, List.length_zip]; omega)]
    rfl
theorem plusL_eq {p : Int} {a b : List Int} (hp : 0 < p) (ha : Res p a) (hb : Res p b) : plusL p a b = addP p a b := by
  apply row_ext (trim_top _) (trim_top _)
  intro i
  rw [getI_trim, getI_zipAdd _ _ _ (by rw [List.length_append, List.length_append, List.length_replicate, List.length_replicate]; omega), getI_pad, getI_pad]
  exact (get_add hp ha hb i).symm
/-- products, reduced at each step -/
def rowAddM (p : Int) (f : List Int) (at_ : Nat) (x : Int) (b : List Int) : List Int := b.zipIdx.foldl (fun f q => f.set (at_ + q.2) ((getI f (at_ + q.2) + x * q.1) % p)) f
def timesR (p : Int) (a b : List Int) : List Int := a.zipIdx.foldl (fun f q => rowAddM p f q.2 q.1 b) (List.replicate (a.length + b.length - 1) 0)
theorem rowAddM_len (p : Int) (at_ : Nat) (x : Int) : ∀ (b : List (Int × Nat)) (f : List Int), (b.foldl (fun f q => f.set (at_ + q.2) ((getI f (at_ + q.2) + x * q.1) % p)) f).length = f.length
  | [], f => rfl
  | q :: b, f => by rw [List.foldl_cons, rowAddM_len p at_ x b, List.length_set]
theorem timesR_len (p : Int) (b : List Int) : ∀ (a : List (Int × Nat)) (f : List Int), (a.foldl (fun f q => rowAddM p f q.2 q.1 b) f).length = f.length
  | [], f => rfl
  | q :: a, f => by rw [List.foldl_cons, timesR_len p b a]; exact rowAddM_len _ _ _ _ _
theorem rowAddM_res {p : Int} (hp : 0 < p) (at_ : Nat) (x : Int) : ∀ (b : List (Int × Nat)) (f : List Int), Res p f → Res p (b.foldl (fun f q => f.set (at_ + q.2) ((getI f (at_ + q.2) + x * q.1) % p)) f)
  | [], f, h => h
  | q :: b, f, h => by rw [List.foldl_cons]; exact rowAddM_res hp at_ x b _ (res_set h (mod_res hp _))
theorem timesR_res {p : Int} (hp : 0 < p) (b : List Int) : ∀ (a : List (Int × Nat)) (f : List Int), Res p f → Res p (a.foldl (fun f q => rowAddM p f q.2 q.1 b) f)
  | [], f, h => h
  | q :: a, f, h => by rw [List.foldl_cons]; exact timesR_res hp b a _ (rowAddM_res hp _ _ _ _ h)
theorem rowAddM_get (p : Int) (at_ : Nat) (x : Int) : ∀ (b : List Int) (k : Nat) (f : List Int) (i : Nat), at_ + k + b.length ≤ f.length → getI ((b.zipIdx k).foldl (fun f q => f.set (at_ + q.2) ((getI f (at_ + q.2) + x * q.1) % p)) f) i % p = (getI f i + x * up (at_ + k) (getI b) i) % p
  | [], k, f, i, h => by simp [up, getI]
  | y :: b, k, f, i, h => by
    simp only [List.length_cons] at h
    rw [List.zipIdx_cons, List.foldl_cons, rowAddM_get p at_ x b (k + 1) _ i (by rw [List.length_set]; omega), getI_set _ _ _ _ (by omega)]
    simp only [up]
    by_cases e : i = at_ + k
    · subst e
      rw [if_pos rfl, if_neg (by omega), if_pos (Nat.le_refl _), Nat.sub_self]
      show ((_ + x * y) % p + x * 0) % p = (_ + x * y) % p
      rw [Int.mul_zero, Int.add_zero, mm]
    · rw [if_neg e]
      by_cases h1 : at_ + k ≤ i
      · rw [if_pos (by omega), if_pos h1]
        have : i - (at_ + k) = (i - (at_ + (k + 1))) + 1 := by omega
        rw [this]
        rfl
      · rw [if_neg (by omega), if_neg h1]
theorem timesM_get (p : Int) (b : List Int) : ∀ (a : List Int) (k : Nat) (f : List Int) (i : Nat), k + a.length + b.length ≤ f.length + 1 → getI ((a.zipIdx k).foldl (fun f q => rowAddM p f q.2 q.1 b) f) i % p = (getI f i + up k (cv (getI a) (getI b)) i) % p
  | [], k, f, i, h => by
    simp only [up]
    rw [cv_zero (a := getI []) fun _ => rfl]
    simp
  | x :: a, k, f, i, h => by
    simp only [List.length_cons] at h
    have el : (rowAddM p f k x b).length = f.length := rowAddM_len _ _ _ _ _
    have e : getI (rowAddM p f k x b) i % p = (getI f i + x * up k (getI b) i) % p := rowAddM_get p k x b 0 f i (by omega)
    rw [List.zipIdx_cons, List.foldl_cons, timesM_get p b a (k + 1) _ i (by rw [el]; omega), ema e rfl, up_cv (getI (x :: a)), sh_cons]
    show _ = (_ + (x * _ + _)) % p
    rw [Int.add_assoc]
theorem timesR_eq {p : Int} (hp : 0 < p) (a b : List Int) : trimI (timesR p a b) = mulP p a b := by
  apply row_ext (trim_top _) (trim_top _)
  intro i
  have hr : Res p (timesR p a b) := timesR_res hp b _ _ (res_zeros hp)
  rw [getI_trim]
  refine Eq.trans ?_ (get_mul a b i).symm
  rw [← getI_mod hp hr i]
  by_cases h : a.length = 0
  · rw [List.eq_nil_of_length_eq_zero h, cv_zero (a := getI []) fun _ => rfl]
    show getI (List.replicate _ 0) i % p = _
    rw [getI_rep]
  · unfold timesR
    have := timesM_get p b a 0 (List.replicate (a.length + b.length - 1) 0) i (by rw [List.length_replicate]; omega)
    rw [getI_rep, Int.zero_add] at this
    exact this
/-- a division's step, nothing left out -/
def divStepL (p inv : Int) (b : List Int) (s : List Int × List Int) (at_ : Int) : List Int × List Int :=
  let x := getI s.1 (at_.toNat + b.length - 1) * inv % p
  (subRow p s.1 at_.toNat x b, s.2.set at_.toNat x)
theorem set_self (f : List Int) (j : Nat) : f.set j (getI f j) = f := by
  by_cases h : j < f.length
  · rw [getI_lt h, List.set_getElem_self]
  · rw [List.set_eq_of_length_le (by omega)]
theorem subRow_zero {p : Int} (hp : 0 < p) (at_ : Nat) : ∀ (b : List (Int × Nat)) (f : List Int), Res p f → b.foldl (fun f q => f.set (at_ + q.2) ((getI f (at_ + q.2) - 0 * q.1) % p)) f = f
  | [], f, h => rfl
  | q :: b, f, h => by
    rw [List.foldl_cons, Int.zero_mul, Int.sub_zero, getI_mod hp h, set_self]
    exact subRow_zero hp at_ b f h
theorem divStepL_eq {p inv : Int} (hp : 0 < p) {b : List Int} {s : List Int × List Int} (h : Res p s.1) (i : Int) : divStepL p inv b s i = divStep p inv b s i := by
  unfold divStepL divStep
  show (_, _) = (if _ then _ else _, _)
  split
  · rename_i h0
    rw [h0]
    congr 1
    exact subRow_zero hp _ _ _ h
  · rfl
theorem divFoldL_eq {p inv : Int} (hp : 0 < p) {b : List Int} : ∀ (l : List Int) (s : List Int × List Int), Res p s.1 → Res p s.2 → l.foldl (divStepL p inv b) s = l.foldl (divStep p inv b) s
  | [], s, h, h2 => rfl
  | i :: l, s, h, h2 => by
    rw [List.foldl_cons, List.foldl_cons, divStepL_eq hp h]
    obtain ⟨a, c⟩ := res_divStep (inv := inv) (b := b) (i := i) hp h h2
    exact divFoldL_eq hp l _ a c
section
variable {p : Int} [hp : PC p]
theorem map_last {f : Int → Int} (h0 : f 0 = 0) {r : List Int} (h : r ≠ []) (hf : f (r.getLastD 0) ≠ 0) : (r.map f).getLastD 1 ≠ 0 := by
  have hn : r.map f ≠ [] := fun z => h (List.map_eq_nil_iff.mp z)
  rw [lastD hn, last_getI hn, List.length_map, getI_map h0, ← last_getI h]
  exact hf
theorem neg_row (a : Pol p) : a.r.map (fun e => -e % p) = (-a).r := by
  by_cases h : a.r = []
  · have e : -a = 0 := by
      have : a = 0 := (Pol.nil_iff a).mp h
      rw [this]
      grind
    rw [h, e, (Pol.nil_iff (0 : Pol p)).mpr rfl]
    rfl
  · apply row_ext (map_last (f := fun e => -e % p) (by simp) h ?_) (-a).w.top
    · intro i
      rw [getI_map (f := fun e => -e % p) (by simp)]
      exact (Pol.co_neg a i).symm
    · have h1 := Pol.ld_rng a
      have h2 := Pol.ld_ne fun z => h ((Pol.nil_iff a).mpr z)
      intro z
      have h3 : -(a.ld) % p = 0 := z
      have h4 : a.ld % p = 0 := by
        have := Int.emod_emod_of_dvd (a.ld) (Int.dvd_refl p)
        have h5 : (-(a.ld) + a.ld) % p = 0 := by rw [Int.add_left_neg]; rfl
        rw [Int.add_emod, h3, Int.zero_add, mm] at h5
        exact h5
      rw [Pol.ld_mod] at h4
      exact h2 h4
theorem mul_row {c : Int} (hc : c % p ≠ 0) (a : Pol p) : a.r.map (fun e => e * c % p) = (Pol.C p c * a).r := by
  by_cases h : a.r = []
  · have e : Pol.C p c * a = 0 := by
      have : a = 0 := (Pol.nil_iff a).mp h
      rw [this]
      grind
    rw [h, e, (Pol.nil_iff (0 : Pol p)).mpr rfl]
    rfl
  · apply row_ext (map_last (f := fun e => e * c % p) (by simp) h ?_) (Pol.C p c * a).w.top
    · intro i
      rw [getI_map (f := fun e => e * c % p) (by simp), Int.mul_comm]
      exact (Pol.co_Cmul c a i).symm
    · exact res_mul_ne hp.pr (Pol.ld_nm fun z => h ((Pol.nil_iff a).mpr z)) hc
theorem scl_row (c : Int) (a : Pol p) : trimI (a.r.map (fun e => e * c % p)) = (Pol.C p c * a).r := by
  rw [← scl_eq]
  unfold sclP
  congr 1
  apply List.map_congr_left
  intro x _
  rw [Int.mul_comm]
def mon1 (a : Pol p) : Pol p := Pol.C p (invI p a.ld) * a
theorem free_of {a : Pol p} (h0 : a.drv ≠ 0) (h : (mon1 (a.gcd a.drv)).r = [1]) : free0 p a.r := by
  obtain ⟨g0, _⟩ := gcd_ne a a.drv h0
  have l := ld_pos g0
  have n := (inv_mod (p := p) l.1 l.2).2
  have h1 : (mon1 (a.gcd a.drv)).len = (a.gcd a.drv).len := Pol.scl_len n _
  have h2 : (mon1 (a.gcd a.drv)).len = 1 := by show (mon1 (a.gcd a.drv)).r.length = 1; rw [h]; rfl
  unfold free0
  have e : gcdP p a.r (dervP p a.r) = (a.gcd a.drv).r := rfl
  rw [e]
  unfold monZ
  rw [if_neg (Pol.nn g0), mon_len g0]
  omega
end
end DL

namespace DL
open PySem PySem.Spec PyProof.Rows L2
/-- a polynomial as a plain row -/
abbrev rD {p : Int} (a : Pol p) : Dt := .tup (rowD a.r)
section
variable {P : Program} {w : World} {K : PySem.W.Frag} {mg : Str → Option Value} {base : Heap}
theorem p_law_trim (T : Tx K mg) : FnA P w K mg base 1 (He.ga K "_law_trim") S_trim :=
  fn_ok (N := ["_law_row", "_law_size"]) (ps := ["_law_row"]) (d__law_trim T) (sc_of (by decide +kernel)) (fun _ _ _ _ _ _ us hl => match us, hl with | [_], _ => rfl) (fun _ _ ⟨_, e, _⟩ => e ▸ rfl) fun X cg hf ds R ⟨r, e, hl, hR⟩ => by
    subst e
    have bf := T.bf
    refine r_setD 1 cg (v_len .l (v_var 0)) ?_
    refine r_while cg (fun m δ' => δ' = [.im (.lst (rowD r)), .im (.int m)] ∧ m ≤ r.length ∧ trimI (r.take m) = trimI r) r.length ⟨by simp [startS], Nat.le_refl _, by simp⟩ fun m δ' ⟨e, h1, h2⟩ => ?_
    subst e
    match m, h1, h2 with
    | 0, h1, h2 =>
      refine ⟨false, t_w ((w_and (m := true) (t_gt (v_var 1) v_int) fun h => absurd (of_decide_eq_true h) (by decide)).is (by decide)), (fun hb => by cases hb), fun _ => ?_⟩
      refine r_retD (v_tuple .l (v_slL (v_var 0) o_none (o_some (v_var 1)))) ?_
      rw [cutD_to (Nat.zero_le _)]
      rw [← h2] at hR
      exact hR
    | m + 1, h1, h2 =>
      have g : decide ((0 : Int) < ((m + 1 : Nat) : Int)) = true := decide_eq_true (by omega)
      refine ⟨_, t_w ((w_and (t_gt (v_var 1) v_int) fun _ => w_and1 (t_eqI (v_item .l (v_var 0) (v_sub (v_var 1) v_int) (d := .int (getI r m)) ?_) v_int)).is (m := decide (getI r m = 0)) (by rw [g]; rfl)), fun hb => ?_, fun hb => ?_⟩
      · rw [show ((m + 1 : Nat) : Int) - 1 = (m : Int) by omega]
        exact atI_nat h1
      · refine r_setD (d := .int (((m + 1 : Nat) : Int) - 1)) 1 cg (v_sub (v_var 1) v_int) (r_nil ?_)
        refine ⟨m, Nat.lt_succ_self _, ?_, by omega, ?_⟩
        · rw [show ((m + 1 : Nat) : Int) - 1 = (m : Int) by omega]
          rfl
        · rw [← trim_take h1 (of_decide_eq_true hb)]
          exact h2
      · refine r_retD (v_tuple .l (v_slL (v_var 0) o_none (o_some (v_var 1)))) ?_
        rw [cutD_to h1, ← trim_stop h1 (of_decide_eq_false hb), h2]
        exact hR
section
variable {X : Cx} {δ : List Sl} {e1 e2 : Expr} {pos p1 : Pos} {k : Nat} {N : List Str} {sc : Scope} {r : List Int}
theorem x_trim (T : Tx K mg) (cg : Cg P w K mg base k N sc X) (ha : EvD X δ e1 (.lst (rowD r))) (hl : r.length ≤ 10000) (hn : 1 ≤ k := by decide) (hg : Gl X "_law_trim" := by first | rfl | exact Cg.gl (by assumption) rfl)
    (he : starEach [e1] X.env = (false, eval e1 X.env) :: starEach [] X.env := by rfl) (hpl : (backTo pos (starEach [] X.env)).any (·.1) = false := by rfl) : EvD X δ (.Call (.Name "_law_trim" p1) [e1] [] pos) (.tup (rowD (trimI r))) :=
  v_fn cg (p_law_trim T) (d__law_trim T) (g__law_trim T) (a_d ha a_nil he) ⟨r, rfl, hl, rfl⟩ hn hg (by decide) he hpl
end
theorem rep_row (n : Nat) (i : Int) (h : i.toNat = n) : List.replicate i.toNat (Dt.int 0) = rowD (List.replicate n 0) := by
  unfold rowD
  rw [h, List.map_replicate]
def S_law2 (C : ∀ {p : Int} [PC p], Pol p → Pol p → Prop) (f : ∀ {p : Int} [PC p], Pol p → Pol p → Dt) : Sd := fun ds R => ∃ (p : Int) (_ : PC p) (a b : Pol p), ds = [.int p, rD a, rD b] ∧ a.len ≤ 900 ∧ b.len ≤ 900 ∧ C a b ∧ R (f a b)
theorem p_law_plus (T : Tx K mg) : FnA P w K mg base 2 (He.ga K "_law_plus") (S_law2 (fun _ _ => True) fun a b => rD (a + b)) :=
  fn_ok (N := ["_law_prime", "_law_one", "_law_other", "_law_size", "_law_first", "_law_second", "_law_a", "_law_b"]) (ps := ["_law_prime", "_law_one", "_law_other"]) (d__law_plus T) (sc_of (by decide +kernel)) (fun _ _ _ _ _ _ us hl => match us, hl with | [_, _, _], _ => rfl) (fun _ _ ⟨_, _, _, _, e, _⟩ => e ▸ rfl) fun X cg hf ds R ⟨p, hp, a, b, ed, la, lb, _, hR⟩ => by
    subst ed
    have bf := T.bf
    have h0 := hp.pos
    have la' : a.r.length ≤ 900 := la
    have lb' : b.r.length ≤ 900 := lb
    have em : (if ((rowD b.r).length : Int) > ((rowD a.r).length : Int) then ((rowD b.r).length : Int) else ((rowD a.r).length : Int)) = ((max a.r.length b.r.length : Nat) : Int) := by
      rw [row_len, row_len]
      split <;> omega
    refine r_setD (d := .int ((max a.r.length b.r.length : Nat) : Int)) 3 cg ((v_max2 cg (v_len .t (v_var 1)) (v_len .t (v_var 2))).is (by rw [em])) ?_
    refine r_setD (d := .tup (rowD (a.r ++ List.replicate (max a.r.length b.r.length - a.r.length) 0))) 4 cg ((v_addT ?_ (v_tuple .t (v_var 1)) (v_repT ?_ ?_ (v_tupD (a_d v_int a_nil)) (v_sub (v_var 3) (v_len .t (v_var 1))))).is ?_) ?_
    · simp only [row_len, List.length_replicate]; omega
    · rw [row_len]; omega
    · rw [row_len]; omega
    · rw [rep_row (max a.r.length b.r.length - a.r.length) _ (by rw [row_len]; omega), row_app]
    refine r_setD (d := .tup (rowD (b.r ++ List.replicate (max a.r.length b.r.length - b.r.length) 0))) 5 cg ((v_addT ?_ (v_tuple .t (v_var 2)) (v_repT ?_ ?_ (v_tupD (a_d v_int a_nil)) (v_sub (v_var 3) (v_len .t (v_var 2))))).is ?_) ?_
    · simp only [row_len, List.length_replicate]; omega
    · rw [row_len]; omega
    · rw [row_len]; omega
    · rw [rep_row (max a.r.length b.r.length - b.r.length) _ (by rw [row_len]; omega), row_app]
    have hz : ((a.r ++ List.replicate (max a.r.length b.r.length - a.r.length) 0).zip (b.r ++ List.replicate (max a.r.length b.r.length - b.r.length) 0)).length ≤ 2000 := by
      rw [List.length_zip, List.length_append, List.length_append, List.length_replicate, List.length_replicate]
      omega
    refine r_ret ((x_trim T cg ((v_lc cg (lc_map (xs := (a.r ++ List.replicate (max a.r.length b.r.length - a.r.length) 0).zip (b.r ++ List.replicate (max a.r.length b.r.length - b.r.length) 0)) (gd := fun q => .tup [.int q.1, .int q.2]) (f := fun q => .int ((q.1 + q.2) % p)) [("_law_a", 6), ("_law_b", 7)] cg (by omega) (by rw [← zipD_row]; exact it_zip .t .t (v_var 4) (v_var 5)) fun XB cb q hq =>
      ⟨tg_tup cb (tp_cons 6 cb (tp_cons 7 cb tp_nil)), v_mod h0 (v_int1 (v_add (v_var 6) (v_var 7))) (v_var 0)⟩)).is (by rw [lst_map])) (by rw [List.length_map]; omega)).mono fun d ed => ?_)
    cases ed
    have e : trimI (((a.r ++ List.replicate (max a.r.length b.r.length - a.r.length) 0).zip (b.r ++ List.replicate (max a.r.length b.r.length - b.r.length) 0)).map fun (q : Int × Int) => (q.1 + q.2) % p) = (a + b).r := plusL_eq h0 a.w.res b.w.res
    rw [e]
    exact hR
theorem p_law_turned (T : Tx K mg) : FnA P w K mg base 1 (He.ga K "_law_turned") (fun ds R => ∃ (p : Int) (_ : PC p) (a : Pol p), ds = [.int p, rD a] ∧ a.len ≤ 900 ∧ R (rD (-a))) :=
  fn_ok (N := ["_law_prime", "_law_row", "_law_entry"]) (ps := ["_law_prime", "_law_row"]) (d__law_turned T) (sc_of (by decide +kernel)) (fun _ _ _ _ _ _ us hl => match us, hl with | [_, _], _ => rfl) (fun _ _ ⟨_, _, _, e, _⟩ => e ▸ rfl) fun X cg hf ds R ⟨p, hp, a, ed, la, hR⟩ => by
    subst ed
    have bf := T.bf
    have h0 := hp.pos
    have la' : a.r.length ≤ 900 := la
    refine r_ret ((v_tuple .l ((v_lc cg (lc_map (xs := a.r) (gd := Dt.int) (f := fun e => .int (-e % p)) [("_law_entry", 2)] cg (by omega) (it_tup (v_var 1)) fun XB cb q hq =>
      ⟨tg_name 2 cb, v_mod h0 (v_int1 (v_neg (v_var 2))) (v_var 0)⟩)).is (by rw [lst_map]))).mono fun d ed => ?_)
    cases ed
    rw [neg_row]
    exact hR
section
variable {X : Cx} {δ : List Sl} {e1 e2 e3 : Expr} {pos p1 : Pos} {k : Nat} {N : List Str} {sc : Scope} {p : Int} [hp : PC p] {a b : Pol p}
theorem y_plus (T : Tx K mg) (cg : Cg P w K mg base k N sc X) (h1 : EvD X δ e1 (.int p)) (h2 : EvD X δ e2 (rD a)) (h3 : EvD X δ e3 (rD b)) (la : a.len ≤ 900) (lb : b.len ≤ 900) (hn : 2 ≤ k := by decide) (hg : Gl X "_law_plus" := by first | rfl | exact Cg.gl (by assumption) rfl)
    (q1 : starEach [e1, e2, e3] X.env = (false, eval e1 X.env) :: starEach [e2, e3] X.env := by rfl) (q2 : starEach [e2, e3] X.env = (false, eval e2 X.env) :: starEach [e3] X.env := by rfl) (q3 : starEach [e3] X.env = (false, eval e3 X.env) :: starEach [] X.env := by rfl) (hpl : (backTo pos (starEach [e2, e3] X.env)).any (·.1) = false := by rfl) : EvD X δ (.Call (.Name "_law_plus" p1) [e1, e2, e3] [] pos) (rD (a + b)) :=
  v_fn cg (p_law_plus T) (d__law_plus T) (g__law_plus T) (a_d h1 (a_d h2 (a_d h3 a_nil q3) q2) q1) ⟨p, hp, a, b, rfl, la, lb, trivial, rfl⟩ hn hg (by decide) q1 hpl
theorem y_turned (T : Tx K mg) (cg : Cg P w K mg base k N sc X) (h1 : EvD X δ e1 (.int p)) (h2 : EvD X δ e2 (rD a)) (la : a.len ≤ 900) (hn : 1 ≤ k := by decide) (hg : Gl X "_law_turned" := by first | rfl | exact Cg.gl (by assumption) rfl)
    (q1 : starEach [e1, e2] X.env = (false, eval e1 X.env) :: starEach [e2] X.env := by rfl) (q2 : starEach [e2] X.env = (false, eval e2 X.env) :: starEach [] X.env := by rfl) (hpl : (backTo pos (starEach [e2] X.env)).any (·.1) = false := by rfl) : EvD X δ (.Call (.Name "_law_turned" p1) [e1, e2] [] pos) (rD (-a)) :=
  v_fn cg (p_law_turned T) (d__law_turned T) (g__law_turned T) (a_d h1 (a_d h2 a_nil q2) q1) ⟨p, hp, a, rfl, la, rfl⟩ hn hg (by decide) q1 hpl
end
theorem p_law_less (T : Tx K mg) : FnA P w K mg base 3 (He.ga K "_law_less") (S_law2 (fun _ _ => True) fun a b => rD (a - b)) :=
  fn_ok (N := ["_law_prime", "_law_one", "_law_other"]) (ps := ["_law_prime", "_law_one", "_law_other"]) (d__law_less T) (sc_of (by decide +kernel)) (fun _ _ _ _ _ _ us hl => match us, hl with | [_, _, _], _ => rfl) (fun _ _ ⟨_, _, _, _, e, _⟩ => e ▸ rfl) fun X cg hf ds R ⟨p, hp, a, b, ed, la, lb, _, hR⟩ => by
    subst ed
    have bf := T.bf
    replace hR : R (rD (a - b)) := hR
    rw [Pol.sub_eq] at hR
    exact r_retD (y_plus T cg (v_var 0) (v_var 1) (y_turned T cg (v_var 0) (v_var 2) lb) la (Pol.neg_len b lb)) hR
end
end DL

namespace DL
open PySem PySem.Spec PyProof.Rows L2
theorem divFoldL_len (p inv : Int) (b : List Int) : ∀ (l : List Int) (s : List Int × List Int), (l.foldl (divStepL p inv b) s).1.length = s.1.length ∧ (l.foldl (divStepL p inv b) s).2.length = s.2.length
  | [], s => ⟨rfl, rfl⟩
  | i :: l, s => by
    rw [List.foldl_cons]
    have h1 := divFoldL_len p inv b l (divStepL p inv b s i)
    refine ⟨h1.1.trans ?_, h1.2.trans ?_⟩
    · exact subRow_len _ _ _ _ _
    · exact List.length_set ..
section
variable {P : Program} {w : World} {K : PySem.W.Frag} {mg : Str → Option Value} {base : Heap}
theorem p_law_times (T : Tx K mg) : FnA P w K mg base 2 (He.ga K "_law_times") (S_law2 (fun _ _ => True) fun a b => rD (a * b)) :=
  fn_ok (N := ["_law_prime", "_law_one", "_law_other", "_law_found", "_law_at", "_law_entry", "_law_to", "_law_factor"]) (ps := ["_law_prime", "_law_one", "_law_other"]) (d__law_times T) (sc_of (by decide +kernel)) (fun _ _ _ _ _ _ us hl => match us, hl with | [_, _, _], _ => rfl) (fun _ _ ⟨_, _, _, _, e, _⟩ => e ▸ rfl) fun X cg hf ds R ⟨p, hp, a, b, ed, la, lb, _, hR⟩ => by
    subst ed
    have bf := T.bf
    have h0 := hp.pos
    have h7 := hp.pr.le
    have la' : a.r.length ≤ 900 := la
    have lb' : b.r.length ≤ 900 := lb
    replace hR : R (rD (a * b)) := hR
    by_cases hz : a.r = [] ∨ b.r = []
    · have e0 : a * b = 0 := by
        rcases hz with h | h
        · rw [(Pol.nil_iff a).mp h]; grind
        · rw [(Pol.nil_iff b).mp h]; grind
      refine r_if (k := true) ((t_w (w_or (t_eqT (r2 := []) cg (v_var 1) (v_tupD a_nil)) fun _ => w_or1 (t_eqT (r2 := []) cg (v_var 2) (v_tupD a_nil)))).is ?_) (fun _ => ?_) fun h => nomatch h
      · rcases hz with h | h
        · rw [decide_eq_true h]; rfl
        · rw [decide_eq_true h, Bool.or_true]
      · refine r_retD (v_tupD a_nil) ?_
        rw [e0] at hR
        have : rD (0 : Pol p) = .tup [] := by unfold rD; rw [(Pol.nil_iff (0 : Pol p)).mpr rfl]; rfl
        rw [this] at hR
        exact hR
    · have ha : a.r ≠ [] := fun z => hz (.inl z)
      have hb : b.r ≠ [] := fun z => hz (.inr z)
      have ha1 : 0 < a.r.length := List.length_pos_iff.mpr ha
      have hb1 : 0 < b.r.length := List.length_pos_iff.mpr hb
      refine r_if (k := false) ((t_w (w_or (t_eqT (r2 := []) cg (v_var 1) (v_tupD a_nil)) fun _ => w_or1 (t_eqT (r2 := []) cg (v_var 2) (v_tupD a_nil)))).is (by rw [decide_eq_false ha, decide_eq_false hb]; rfl)) (fun h => nomatch h) fun _ => r_nil ?_
      have ez := rep0s (a.r.length + b.r.length - 1) (((rowD a.r).length : Int) + ((rowD b.r).length : Int) - 1) (by rw [row_len, row_len]; omega)
      refine r_setM (ds := rowD (List.replicate (a.r.length + b.r.length - 1) 0)) 3 cg (by rw [← ez]; exact l_rep (by rw [row_len, row_len]; omega) (by rw [row_len, row_len]; omega) (by decide) (v_L (l_lst (a_d v_int a_nil))) (v_sub (v_add (v_len .t (v_var 1)) (v_len .t (v_var 2))) v_int)) ?_
      let st : List Int → List Sl := fun f => [.im (.int p), .im (rD a), .im (rD b), .mu (rowD f), .no, .no, .no, .no]
      refine r_forF (xs := a.r.zipIdx) (g := fun q => .tup [.int (q.2 : Nat), .int q.1]) cg (by rw [← enumD_row]; exact it_enum .t (v_var 1)) st (fun f q => rowAddM p f q.2 q.1 b.r) (List.replicate (a.r.length + b.r.length - 1) 0) Le.rfl (fun n q hq => ⟨tg_tup cg (tp_cons 4 cg (tp_cons 5 cg tp_nil)), ?_⟩) ?_
      · obtain ⟨e2, hn, hx⟩ := zipIdx_at hq
        generalize hf0 : (a.r.zipIdx.take n).foldl (fun f q => rowAddM p f q.2 q.1 b.r) (List.replicate (a.r.length + b.r.length - 1) 0) = f0
        have l0 : f0.length = a.r.length + b.r.length - 1 := by rw [← hf0, timesR_len, List.length_replicate]
        let st2 : List Int → List Sl := fun f => [.im (.int p), .im (rD a), .im (rD b), .mu (rowD f), .im (.int (q.2 : Nat)), .im (.int q.1), .no, .no]
        refine r_forF (xs := b.r.zipIdx) (g := fun q => .tup [.int (q.2 : Nat), .int q.1]) cg (by rw [← enumD_row]; exact it_enum .t (v_var 2)) st2 (fun f r => f.set (q.2 + r.2) ((getI f (q.2 + r.2) + q.1 * r.1) % p)) f0 Le.rfl (fun m r hr => ⟨tg_tup cg (tp_cons 6 cg (tp_cons 7 cg tp_nil)), ?_⟩) ?_
        · obtain ⟨e3, hm, hy⟩ := zipIdx_at hr
          generalize hf1 : (b.r.zipIdx.take m).foldl (fun f r => f.set (q.2 + r.2) ((getI f (q.2 + r.2) + q.1 * r.1) % p)) f0 = f1
          have l1 : f1.length = a.r.length + b.r.length - 1 := by rw [← hf1, rowAddM_len, l0]
          have hb2 : q.2 + r.2 < f1.length := by omega
          refine r_put 3 (R := is_ (.int ((getI f1 (q.2 + r.2) + q.1 * r.1) % p))) (v_mod h0 (v_int1 (v_add (v_itemM 3 (v_add (v_var 4) (v_var 6)) rfl (atI_is (m := q.2 + r.2) (by omega) hb2)) (v_mul (.inl (a.w.res.small (by omega) (List.mem_of_getElem? hx))) (v_var 5) (v_var 7)))) (v_var 0)) (v_add (v_var 4) (v_var 6)) rfl (ixN_nat (m := q.2 + r.2) (by omega) (by rw [row_len]; exact hb2)) fun d hd => r_nil ?_
          cases hd
          rw [row_set]
          exact .eq (.eq (.eq (.eq (.eq (.eq (.no (.no .nil)))))))
        · exact r_nil (.eq (.eq (.eq (.eq (.no (.no (.eq (.eq .nil))))))))
      · refine r_freeze 3 rfl ?_
        refine r_ret ((x_trim (r := timesR p a.r b.r) T cg (v_var 3) (by unfold timesR; rw [timesR_len, List.length_replicate]; omega)).mono fun d hd => ?_)
        cases hd
        rw [timesR_eq h0]
        exact hR
abbrev rD2 {p : Int} [PC p] (a b : Pol p) : Dt := .tup [rD (a.quo b), rD (a.rem b)]
theorem p_law_divided (T : Tx K mg) : FnA P w K mg base 2 (He.ga K "_law_divided") (S_law2 (fun _ b => b ≠ 0) rD2) :=
  fn_ok (N := ["_law_prime", "_law_one", "_law_other", "_law_left", "_law_lead", "_law_found", "_law_place", "_law_factor", "_law_at", "_law_entry", "_law_taken"]) (ps := ["_law_prime", "_law_one", "_law_other"]) (d__law_divided T) (sc_of (by decide +kernel)) (fun _ _ _ _ _ _ us hl => match us, hl with | [_, _, _], _ => rfl) (fun _ _ ⟨_, _, _, _, e, _⟩ => e ▸ rfl) fun X cg hf ds R ⟨p, hp, a, b, ed, la, lb, b0, hR⟩ => by
    subst ed
    have bf := T.bf
    have h0 := hp.pos
    have h7 := hp.pr.le
    have la' : a.r.length ≤ 900 := la
    have lb' : b.r.length ≤ 900 := lb
    have hb : b.r ≠ [] := Pol.nn b0
    have hbl : 0 < b.r.length := List.length_pos_iff.mpr hb
    have ll := ld_pos b0
    obtain ⟨_, _, v1, v2⟩ := inv_ok hp.pr ll.1 ll.2
    let inv := invI p b.ld
    refine r_par2 3 4 cg (s_mu (l_list .t (v_var 1)) (s_im (d := .int inv) (v_fn cg (p_law_inverse T) (d__law_inverse T) (g__law_inverse T) (a_d (v_var 0) (a_d (v_mod h0 (v_int1 (v_item .t (v_var 2) (v_neg v_int) (atI_rowL hb))) (v_var 0)) a_nil)) ⟨p, _, by rw [Pol.ld_mod], hp.pr, ll.1, ll.2, rfl⟩) s_nil)) ?_
    have em : (if ((rowD a.r).length : Int) - ((rowD b.r).length : Int) + 1 > 0 then ((rowD a.r).length : Int) - ((rowD b.r).length : Int) + 1 else 0).toNat = quoN a.r b.r := by
      rw [row_len, row_len]
      unfold quoN
      split <;> omega
    have eq : quoN a.r b.r ≤ a.r.length := by unfold quoN; omega
    have ez := rep0s (quoN a.r b.r) _ em
    refine r_setM (ds := rowD (List.replicate (quoN a.r b.r) 0)) 5 cg (by rw [← ez]; exact l_rep (by rw [row_len, row_len]; split <;> omega) (by rw [row_len, row_len]; split <;> omega) (by decide) (v_L (l_lst (a_d v_int a_nil))) (v_max2 cg v_int (v_add (v_sub (v_len .t (v_var 1)) (v_len .t (v_var 2))) v_int))) ?_
    let st : List Int × List Int → List Sl := fun s => [.im (.int p), .im (rD a), .im (rD b), .mu (rowD s.1), .im (.int inv), .mu (rowD s.2), .no, .no, .no, .no, .no]
    have el : rowD (rangeD (((rowD a.r).length : Int) - ((rowD b.r).length : Int)) (-1) ((((rowD a.r).length : Int) - ((rowD b.r).length : Int)) - (-1)).toNat) = (rangeD ((quoN a.r b.r : Int) - 1) (-1) (quoN a.r b.r)).map Dt.int := by
      rw [row_len, row_len]
      by_cases hq : quoN a.r b.r = 0
      · have : ((a.r.length : Int) - b.r.length - (-1)).toNat = 0 := by unfold quoN at hq; omega
        rw [hq, this]
        rfl
      · unfold quoN at hq ⊢
        rw [show ((a.r.length : Int) - b.r.length - (-1)).toNat = a.r.length + 1 - b.r.length by omega, show (((a.r.length + 1 - b.r.length : Nat) : Int) - 1) = (a.r.length : Int) - b.r.length by omega]
    refine r_forF (xs := rangeD ((quoN a.r b.r : Int) - 1) (-1) (quoN a.r b.r)) (g := Dt.int) cg ((it_range3 (v_sub (v_len .t (v_var 1)) (v_len .t (v_var 2))) (v_neg v_int) (v_neg v_int) (by
      rw [row_len, row_len]
      exact ⟨(range62n (by omega) (by omega)).1, (range62n (by omega) (by omega)).2, (range62n (by decide) (by decide)).1, (range62n (by decide) (by decide)).2⟩)).is el) st (divStepL p inv b.r) (a.r, List.replicate (quoN a.r b.r) 0) Le.rfl (fun n i hi => ⟨tg_name 6 cg, ?_⟩) ?_
    · obtain ⟨hn, ei⟩ := range_at hi
      generalize hs : ((rangeD ((quoN a.r b.r : Int) - 1) (-1) (quoN a.r b.r)).take n).foldl (divStepL p inv b.r) (a.r, List.replicate (quoN a.r b.r) 0) = s
      have ls : s.1.length = a.r.length ∧ s.2.length = quoN a.r b.r := by
        rw [← hs]
        have := divFoldL_len p inv b.r ((rangeD ((quoN a.r b.r : Int) - 1) (-1) (quoN a.r b.r)).take n) (a.r, List.replicate (quoN a.r b.r) 0)
        exact ⟨this.1, this.2.trans (List.length_replicate ..)⟩
      have i0 : 0 ≤ i := by omega
      have hq : quoN a.r b.r = a.r.length + 1 - b.r.length := rfl
      have b1 : i.toNat + b.r.length - 1 < s.1.length := by omega
      have b2 : i.toNat < s.2.length := by omega
      let x := getI s.1 (i.toNat + b.r.length - 1) * inv % p
      have xr : 0 ≤ x ∧ x < p := mod_res h0 _
      refine r_setD (d := .int x) 7 cg (v_mod h0 (v_int1 (v_mul (.inr (small64 (by omega) (by omega))) (v_itemM 3 (v_sub (v_add (v_var 6) (v_len .t (v_var 2))) v_int) rfl (atI_is (m := i.toNat + b.r.length - 1) (by rw [row_len]; omega) b1)) (v_var 4))) (v_var 0)) ?_
      refine r_put 5 (R := is_ (.int x)) (v_var 7) (v_var 6) rfl (ixN_nat (m := i.toNat) (by omega) (by rw [row_len]; exact b2)) fun d hd => ?_
      cases hd
      rw [row_set]
      have step : divStepL p inv b.r s i = (subRow p s.1 i.toNat x b.r, s.2.set i.toNat x) := rfl
      rw [step]
      let st2 : List Int → List Sl := fun f => [.im (.int p), .im (rD a), .im (rD b), .mu (rowD f), .im (.int inv), .mu (rowD (s.2.set i.toNat x)), .im (.int i), .im (.int x), .no, .no, .no]
      refine r_forF (xs := b.r.zipIdx) (g := fun q => .tup [.int (q.2 : Nat), .int q.1]) cg (by rw [← enumD_row]; exact it_enum .t (v_var 2)) st2 (fun f q => f.set (i.toNat + q.2) ((getI f (i.toNat + q.2) - x * q.1) % p)) s.1 Le.rfl (fun m r hr => ⟨tg_tup cg (tp_cons 8 cg (tp_cons 9 cg tp_nil)), ?_⟩) ?_
      · obtain ⟨e3, hm, hy⟩ := zipIdx_at hr
        generalize hf1 : (b.r.zipIdx.take m).foldl (fun f q => f.set (i.toNat + q.2) ((getI f (i.toNat + q.2) - x * q.1) % p)) s.1 = f1
        have l1 : f1.length = a.r.length := by rw [← hf1, subRow_len, ls.1]
        have hb3 : i.toNat + r.2 < f1.length := by omega
        refine r_setD (d := .int (getI f1 (i.toNat + r.2) - x * r.1)) 10 cg (v_int1 (v_sub (v_itemM 3 (v_add (v_var 6) (v_var 8)) rfl (atI_is (m := i.toNat + r.2) (by omega) hb3)) (v_mul (.inl (small64 (by omega) (by omega))) (v_var 7) (v_var 9)))) ?_
        refine r_put 3 (R := is_ (.int ((getI f1 (i.toNat + r.2) - x * r.1) % p))) (v_mod h0 (v_var 10) (v_var 0)) (v_add (v_var 6) (v_var 8)) rfl (ixN_nat (m := i.toNat + r.2) (by omega) (by rw [row_len]; exact hb3)) fun d hd => r_nil ?_
        cases hd
        rw [row_set]
        exact .eq (.eq (.eq (.eq (.eq (.eq (.eq (.eq (.no (.no (.no .nil))))))))))
      · exact r_nil (.eq (.eq (.eq (.eq (.eq (.eq (.no (.no (.eq (.eq (.eq .nil)))))))))))
    · rw [divFoldL_eq h0 _ _ a.w.res (res_zeros h0)]
      refine r_freeze 5 rfl ?_
      have ld := len_divR (p := p) (a := a.r) (b := b.r)
      have e1 : ((rowD b.r).length : Int) - 1 = ((b.r.length - 1 : Nat) : Int) := by
        rw [row_len]
        omega
      refine r_retD (d := rD2 a b) (v_tupD (a_d (x_trim (r := (divR p a.r b.r).2) T cg (v_var 5) (by rw [ld.2]; omega)) (a_d (x_trim (r := (divR p a.r b.r).1.take (b.r.length - 1)) T cg ((v_slM 3 o_none (o_some (v_sub (v_len .t (v_var 2)) v_int)) rfl).is ?_) ?_) a_nil))) hR
      · rw [e1, cutD_upto]
        rfl
      · rw [List.length_take, ld.1]; omega
end
end DL

namespace DL
open PySem PySem.Spec PyProof.Rows L2
section
variable {P : Program} {w : World} {K : PySem.W.Frag} {mg : Str → Option Value} {base : Heap}
section
variable {X : Cx} {δ : List Sl} {e1 e2 e3 : Expr} {pos p1 : Pos} {k : Nat} {N : List Str} {sc : Scope} {p : Int} [hp : PC p] {a b : Pol p}
theorem y_less (T : Tx K mg) (cg : Cg P w K mg base k N sc X) (h1 : EvD X δ e1 (.int p)) (h2 : EvD X δ e2 (rD a)) (h3 : EvD X δ e3 (rD b)) (la : a.len ≤ 900) (lb : b.len ≤ 900) (hn : 3 ≤ k := by decide) (hg : Gl X "_law_less" := by first | rfl | exact Cg.gl (by assumption) rfl)
    (q1 : starEach [e1, e2, e3] X.env = (false, eval e1 X.env) :: starEach [e2, e3] X.env := by rfl) (q2 : starEach [e2, e3] X.env = (false, eval e2 X.env) :: starEach [e3] X.env := by rfl) (q3 : starEach [e3] X.env = (false, eval e3 X.env) :: starEach [] X.env := by rfl) (hpl : (backTo pos (starEach [e2, e3] X.env)).any (·.1) = false := by rfl) : EvD X δ (.Call (.Name "_law_less" p1) [e1, e2, e3] [] pos) (rD (a - b)) :=
  v_fn cg (p_law_less T) (d__law_less T) (g__law_less T) (a_d h1 (a_d h2 (a_d h3 a_nil q3) q2) q1) ⟨p, hp, a, b, rfl, la, lb, trivial, rfl⟩ hn hg (by decide) q1 hpl
theorem y_times (T : Tx K mg) (cg : Cg P w K mg base k N sc X) (h1 : EvD X δ e1 (.int p)) (h2 : EvD X δ e2 (rD a)) (h3 : EvD X δ e3 (rD b)) (la : a.len ≤ 900) (lb : b.len ≤ 900) (hn : 2 ≤ k := by decide) (hg : Gl X "_law_times" := by first | rfl | exact Cg.gl (by assumption) rfl)
    (q1 : starEach [e1, e2, e3] X.env = (false, eval e1 X.env) :: starEach [e2, e3] X.env := by rfl) (q2 : starEach [e2, e3] X.env = (false, eval e2 X.env) :: starEach [e3] X.env := by rfl) (q3 : starEach [e3] X.env = (false, eval e3 X.env) :: starEach [] X.env := by rfl) (hpl : (backTo pos (starEach [e2, e3] X.env)).any (·.1) = false := by rfl) : EvD X δ (.Call (.Name "_law_times" p1) [e1, e2, e3] [] pos) (rD (a * b)) :=
  v_fn cg (p_law_times T) (d__law_times T) (g__law_times T) (a_d h1 (a_d h2 (a_d h3 a_nil q3) q2) q1) ⟨p, hp, a, b, rfl, la, lb, trivial, rfl⟩ hn hg (by decide) q1 hpl
theorem y_div (T : Tx K mg) (cg : Cg P w K mg base k N sc X) (h1 : EvD X δ e1 (.int p)) (h2 : EvD X δ e2 (rD a)) (h3 : EvD X δ e3 (rD b)) (la : a.len ≤ 900) (lb : b.len ≤ 900) (b0 : b ≠ 0) (hn : 2 ≤ k := by decide) (hg : Gl X "_law_divided" := by first | rfl | exact Cg.gl (by assumption) rfl)
    (q1 : starEach [e1, e2, e3] X.env = (false, eval e1 X.env) :: starEach [e2, e3] X.env := by rfl) (q2 : starEach [e2, e3] X.env = (false, eval e2 X.env) :: starEach [e3] X.env := by rfl) (q3 : starEach [e3] X.env = (false, eval e3 X.env) :: starEach [] X.env := by rfl) (hpl : (backTo pos (starEach [e2, e3] X.env)).any (·.1) = false := by rfl) : EvD X δ (.Call (.Name "_law_divided" p1) [e1, e2, e3] [] pos) (rD2 a b) :=
  v_fn cg (p_law_divided T) (d__law_divided T) (g__law_divided T) (a_d h1 (a_d h2 (a_d h3 a_nil q3) q2) q1) ⟨p, hp, a, b, rfl, la, lb, b0, rfl⟩ hn hg (by decide) q1 hpl
end
theorem p_law_rest (T : Tx K mg) : FnA P w K mg base 3 (He.ga K "_law_rest") (S_law2 (fun _ b => b ≠ 0) fun a b => rD (a.rem b)) :=
  fn_ok (N := ["_law_prime", "_law_one", "_law_other"]) (ps := ["_law_prime", "_law_one", "_law_other"]) (d__law_rest T) (sc_of (by decide +kernel)) (fun _ _ _ _ _ _ us hl => match us, hl with | [_, _, _], _ => rfl) (fun _ _ ⟨_, _, _, _, e, _⟩ => e ▸ rfl) fun X cg hf ds R ⟨p, hp, a, b, ed, la, lb, b0, hR⟩ => by
    subst ed
    have bf := T.bf
    exact r_retD (v_item .t (y_div T cg (v_var 0) (v_var 1) (v_var 2) la lb b0) v_int rfl) hR
theorem p_law_monic (T : Tx K mg) : FnA P w K mg base 2 (He.ga K "_law_monic") (fun ds R => ∃ (p : Int) (_ : PC p) (a : Pol p), ds = [.int p, rD a] ∧ a.len ≤ 900 ∧ a ≠ 0 ∧ R (rD (mon1 a))) :=
  fn_ok (N := ["_law_prime", "_law_row", "_law_lead", "_law_entry"]) (ps := ["_law_prime", "_law_row"]) (d__law_monic T) (sc_of (by decide +kernel)) (fun _ _ _ _ _ _ us hl => match us, hl with | [_, _], _ => rfl) (fun _ _ ⟨_, _, _, e, _⟩ => e ▸ rfl) fun X cg hf ds R ⟨p, hp, a, ed, la, a0, hR⟩ => by
    subst ed
    have bf := T.bf
    have h0 := hp.pos
    have h7 := hp.pr.le
    have la' : a.r.length ≤ 900 := la
    have ll := ld_pos a0
    obtain ⟨_, _, v1, v2⟩ := inv_ok hp.pr ll.1 ll.2
    refine r_setD (d := .int (invI p a.ld)) 2 cg (v_fn cg (p_law_inverse T) (d__law_inverse T) (g__law_inverse T) (a_d (v_var 0) (a_d (v_item .t (v_var 1) (v_neg v_int) (atI_rowL (Pol.nn a0))) a_nil)) ⟨p, _, rfl, hp.pr, ll.1, ll.2, rfl⟩) ?_
    refine r_ret ((v_tuple .l ((v_lc cg (lc_map (xs := a.r) (gd := Dt.int) (f := fun e => .int (e * invI p a.ld % p)) [("_law_entry", 3)] cg (by omega) (it_tup (v_var 1)) fun XB cb q hq =>
      ⟨tg_name 3 cb, v_mod h0 (v_int1 (v_mul (.inr (small64 (by omega) (by omega))) (v_var 3) (v_var 2))) (v_var 0)⟩)).is (by rw [lst_map]))).mono fun d ed => ?_)
    cases ed
    rw [mul_row (inv_mod (p := p) ll.1 ll.2).2]
    exact hR
theorem p_law_common (T : Tx K mg) : FnA P w K mg base 4 (He.ga K "_law_common") (S_law2 (fun _ b => b ≠ 0) fun a b => rD (mon1 (a.gcd b))) :=
  fn_ok (N := ["_law_prime", "_law_one", "_law_other", "_law_turn"]) (ps := ["_law_prime", "_law_one", "_law_other"]) (d__law_common T) (sc_of (by decide +kernel)) (fun _ _ _ _ _ _ us hl => match us, hl with | [_, _, _], _ => rfl) (fun _ _ ⟨_, _, _, _, e, _⟩ => e ▸ rfl) fun X cg hf ds R ⟨p, hp, a, b, ed, la, lb, b0, hR⟩ => by
    subst ed
    have bf := T.bf
    have la' : a.r.length ≤ 900 := la
    have lb' : b.r.length ≤ 900 := lb
    have b1 := Pol.pos_len b0
    obtain ⟨g0, gl⟩ := gcd_ne a b b0
    refine r_for cg (it_range1 (v_add (v_add (v_len .t (v_var 1)) (v_len .t (v_var 2))) v_int) (by rw [row_len, row_len]; exact range62 (by omega) (by omega))) (fun n δ' => ∃ (a' b' : Pol p) (z : Sl) (m : Nat), δ' = [.im (.int p), .im (rD a'), .im (rD b'), z] ∧ a'.len ≤ 900 ∧ b'.len ≤ 900 ∧ b'.len ≤ m ∧ gcdF p m a'.r b'.r = gcdP p a.r b.r ∧ b'.len + n ≤ b.len) ⟨a, b, .no, b.len, rfl, la, lb, Nat.le_refl _, rfl, by omega⟩ (fun n d δ' hd ⟨a', b', z, m, e, la2, lb2, hm, hg, hn⟩ => ?_) fun δ' hδ => ?_
    · subst e
      refine ⟨[3], _, tg_name 3 cg, ?_⟩
      by_cases hz : b'.r = []
      · refine r_if (k := true) ((t_eqT (r2 := []) cg (v_var 2) (v_tupD a_nil)).is (decide_eq_true hz)) (fun _ => r_break ?_) fun h => nomatch h
        have e2 : a' = a.gcd b := by
          refine gcd_is (hg ▸ ?_)
          cases m with
          | zero => rfl
          | succ m =>
            show a'.r = if b'.r = [] then a'.r else _
            rw [if_pos hz]
        rw [e2]
        exact r_ret (v_fn cg (p_law_monic T) (d__law_monic T) (g__law_monic T) (a_d (v_var 0) (a_d (v_var 1) a_nil)) ⟨p, hp, a.gcd b, rfl, by omega, g0, hR⟩)
      · refine r_if (k := false) ((t_eqT (r2 := []) cg (v_var 2) (v_tupD a_nil)).is (decide_eq_false hz)) (fun h => nomatch h) fun _ => r_nil ?_
        have hb0 : b' ≠ 0 := fun q => hz ((Pol.nil_iff b').mpr q)
        have hrl : (a'.rem b').len < b'.len := Pol.rem_len a' b' hz
        refine r_par2 1 2 cg (s_im (v_var 2) (s_im (d := rD (a'.rem b')) (v_fn cg (p_law_rest T) (d__law_rest T) (g__law_rest T) (a_d (v_var 0) (a_d (v_var 1) (a_d (v_var 2) a_nil))) ⟨p, hp, a', b', rfl, la2, lb2, hb0, rfl⟩) s_nil)) (r_nil ?_)
        match m, hm, hg with
        | 0, hm, hg => exact absurd hm (by omega)
        | m + 1, hm, hg =>
          refine ⟨b', a'.rem b', _, m, rfl, lb2, by omega, by omega, ?_, by omega⟩
          rw [← hg]
          show _ = if b'.r = [] then a'.r else gcdF p m b'.r (remP p a'.r b'.r)
          rw [if_neg hz]
          rfl
    · obtain ⟨a', b', z, m, e, la2, lb2, hm, hg, hn⟩ := hδ
      exfalso
      rw [row_len, rangeD_len] at hn
      rw [row_len, row_len] at hn
      have : b.r.length = b.len := rfl
      omega
theorem p_law_slope (T : Tx K mg) : FnA P w K mg base 2 (He.ga K "_law_slope") (fun ds R => ∃ (p : Int) (_ : PC p) (a : Pol p), ds = [.int p, rD a] ∧ a.len ≤ 900 ∧ R (rD a.drv)) :=
  fn_ok (N := ["_law_prime", "_law_row", "_law_at", "_law_entry"]) (ps := ["_law_prime", "_law_row"]) (d__law_slope T) (sc_of (by decide +kernel)) (fun _ _ _ _ _ _ us hl => match us, hl with | [_, _], _ => rfl) (fun _ _ ⟨_, _, _, e, _⟩ => e ▸ rfl) fun X cg hf ds R ⟨p, hp, a, ed, la, hR⟩ => by
    subst ed
    have bf := T.bf
    have h0 := hp.pos
    have h7 := hp.pr.le
    have la' : a.r.length ≤ 900 := la
    refine r_ret ((x_trim (r := (a.r.zipIdx.map fun q => (q.2 : Int) * q.1 % p).drop 1) T cg ((v_slL ((v_lc cg (lc_map (xs := a.r.zipIdx) (gd := fun q => .tup [.int (q.2 : Nat), .int q.1]) (f := fun q => .int ((q.2 : Int) * q.1 % p)) [("_law_at", 2), ("_law_entry", 3)] cg (by rw [List.length_zipIdx]; omega) (by rw [← enumD_row]; exact it_enum .t (v_var 1)) fun XB cb q hq =>
      ⟨tg_tup cb (tp_cons 2 cb (tp_cons 3 cb tp_nil)), v_mod h0 (v_int1 (v_mul (.inr ?_) (v_var 2) (v_var 3))) (v_var 0)⟩)).is (by rw [lst_map])) (o_some v_int) o_none).is ?_) ?_).mono fun d ed => ?_)
    · obtain ⟨n, hn, e⟩ := List.mem_iff_getElem.mp hq
      have h2 : a.r.zipIdx[n]? = some q := by rw [List.getElem?_eq_getElem hn, e]
      obtain ⟨e2, h3, h4⟩ := zipIdx_at h2
      exact a.w.res.small (by omega) (List.mem_of_getElem? h4)
    · by_cases hz : 1 ≤ (a.r.zipIdx.map fun q => (q.2 : Int) * q.1 % p).length
      · rw [show (1 : Int) = ((1 : Nat) : Int) from rfl, cutD_from hz]
      · have : (a.r.zipIdx.map fun q => (q.2 : Int) * q.1 % p) = [] := List.eq_nil_of_length_eq_zero (by omega)
        rw [this]
        rfl
    · rw [List.length_drop, List.length_map, List.length_zipIdx]; omega
    · cases ed
      exact hR
def freeB {p : Int} [PC p] (a : Pol p) : Bool := !decide (a.drv.r = []) && decide ((mon1 (a.gcd a.drv)).r = [1])
theorem freeB_ok {p : Int} [PC p] {a : Pol p} (h : freeB a = true) : free0 p a.r := by
  unfold freeB at h
  rw [Bool.and_eq_true, Bool.not_eq_true', decide_eq_false_iff_not, decide_eq_true_eq] at h
  exact free_of (fun z => h.1 ((Pol.nil_iff a.drv).mpr z)) h.2
theorem drv_len {p : Int} [hp : PC p] (a : Pol p) : a.drv.len ≤ a.len := len_dervP (p := p) (r := a.r)
theorem p_law_is_free (T : Tx K mg) : FnA P w K mg base 5 (He.ga K "_law_is_free") (fun ds R => ∃ (p : Int) (_ : PC p) (a : Pol p), ds = [.int p, rD a] ∧ a.len ≤ 900 ∧ R (.bl (freeB a))) :=
  fn_ok (N := ["_law_prime", "_law_row", "_law_slope_here"]) (ps := ["_law_prime", "_law_row"]) (d__law_is_free T) (sc_of (by decide +kernel)) (fun _ _ _ _ _ _ us hl => match us, hl with | [_, _], _ => rfl) (fun _ _ ⟨_, _, _, e, _⟩ => e ▸ rfl) fun X cg hf ds R ⟨p, hp, a, ed, la, hR⟩ => by
    subst ed
    have bf := T.bf
    have dl := drv_len a
    refine r_setD (d := rD a.drv) 2 cg (v_fn cg (p_law_slope T) (d__law_slope T) (g__law_slope T) (a_d (v_var 0) (a_d (v_var 1) a_nil)) ⟨p, hp, a, rfl, la, rfl⟩) ?_
    refine r_retD (v_and (k := !decide (a.drv.r = [])) (m := decide ((mon1 (a.gcd a.drv)).r = [1])) (v_neT (r2 := []) cg (v_var 2) (v_tupD a_nil)) fun hz => v_one (v_eqT (r1 := (mon1 (a.gcd a.drv)).r) (r2 := [1]) cg (v_fn cg (p_law_common T) (d__law_common T) (g__law_common T) (a_d (v_var 0) (a_d (v_var 1) (a_d (v_var 2) a_nil))) ⟨p, hp, a, a.drv, rfl, la, by omega, fun z => ?_, rfl⟩) (v_tupD (a_d v_int a_nil)))) hR
    rw [decide_eq_true ((Pol.nil_iff a.drv).mpr z)] at hz
    cases hz
end
end DL

namespace DL
open PySem PySem.Spec PyProof.Rows L2
/-! ### the dice: a list of three integers, seen as such or by what is true of it -/
section
variable {X : Cx} {pins : List (Addr × Obj)} {σ : L2.St} {H : Hp} {s : Shared}
theorem inv_view (I : Inv X pins σ H s) {l : Addr} {o o' : HO} (hl : H l = some o) (n1 : ∀ xs, o ≠ .tup xs) (n2 : ∀ ob u, o ≠ .frz ob u) (n3 : ∀ ps, o ≠ .tbl ps) (n4 : ∀ y, o ≠ .own y) (new : ObjOk X.prog X.w (upd H l o') s.heap l o') : Inv X pins σ (upd H l o') s := by
  have other : ∀ b u, H b = some u → u ≠ o → upd H l o' b = some u := fun b u q z => by
    rw [upd_ne fun e => ?_]
    · exact q
    · rw [e, hl] at q
      exact z (Option.some.inj q).symm
  have st := I.step (h' := s.heap) (H' := upd H l o') (g' := s.gens) (d' := s.drawn) (t' := s.toks) (ch := []) (fun _ z => nomatch z) (fun b o hb _ _ q z => q) (fun b o hb _ _ q z => ⟨o.slots, q⟩)
    (fun b o _ _ z => by rw [upd_ne fun e => ?_]; exact z; rw [e, hl] at z; cases z) (fun b o _ q => ⟨o, q⟩) (fun b xs q => other b _ q (fun e => n1 xs e.symm)) (fun b ob u q => other b _ q (fun e => n2 ob u e.symm))
    (fun b ps q => ⟨#[], by rw [other b _ q (fun e => n3 ps e.symm)]; simp⟩) (fun m h => h) (fun b u q => ?_) I.bare
  · exact st
  · by_cases hb : b = l
    · subst hb
      rw [upd_same] at q
      cases q
      exact new
    · rw [upd_ne hb] at q
      refine (I.hok b u q).stay (fun c v hc z => z) (fun c z => other c _ z (fun e => n4 b e.symm)) fun c xs z => other c _ z (fun e => n1 xs e.symm)
theorem view_open (I : Inv X pins σ H s) {l : Addr} (hl : H l = some (DiceO l)) : ∃ a b c : Int, 0 ≤ a ∧ 0 ≤ b ∧ 0 ≤ c ∧ Inv X pins σ (upd H l (.lst [.int a, .int b, .int c])) s := by
  obtain ⟨⟨a, b, c, t, u, z, n, ha, hb, hc, e⟩, _, _⟩ := I.hok l _ hl
  refine ⟨a, b, c, ha, hb, hc, inv_view I hl (fun _ z => by unfold DiceO at z; cases z) (fun _ _ z => by unfold DiceO at z; cases z) (fun _ z => by unfold DiceO at z; cases z) (fun _ z => by unfold DiceO at z; cases z) ⟨?_, [.int a t, .int b u, .int c z], n, .cons ⟨t, rfl⟩ (.cons ⟨u, rfl⟩ (.cons ⟨z, rfl⟩ .nil)), e⟩⟩
  show 3 ≤ sizeLine
  decide
theorem view_close (I : Inv X pins σ H s) {l : Addr} {a b c : Int} (hl : H l = some (.lst [.int a, .int b, .int c])) (ha : 0 ≤ a) (hb : 0 ≤ b) (hc : 0 ≤ c) : Inv X pins σ (upd H l (DiceO l)) s := by
  obtain ⟨_, its, n, r, e⟩ := I.hok l _ hl
  have hd : DiceP l s.heap := by
    cases r with
    | cons r1 r =>
      cases r with
      | cons r2 r =>
        cases r with
        | cons r3 r =>
          cases r
          obtain ⟨t, rfl⟩ := r1
          obtain ⟨u, rfl⟩ := r2
          obtain ⟨z, rfl⟩ := r3
          exact ⟨a, b, c, t, u, z, n, ha, hb, hc, e⟩
  refine inv_view I hl (fun _ z => by cases z) (fun _ _ z => by cases z) (fun _ z => by cases z) (fun _ z => by cases z) ⟨hd, ⟨_, e⟩, fun h1 h2 ⟨a, b, c, t, u, z, n, x1, x2, x3, e1⟩ k => ⟨a, b, c, t, u, z, n, x1, x2, x3, k _ e1⟩⟩
end
section
variable {X : Cx} {δ : List Sl} {e : Expr} {st : List Stmt} {pos : Pos} {D : DEnds} {rest : List Stmt} {σ : L2.St} {H : Hp}
/-- ends behind which the dice at l are to be closed -/
def clo (l : Addr) (E : Ends) : Ends where
  nx := fun σ H => ∃ a b c : Int, 0 ≤ a ∧ 0 ≤ b ∧ 0 ≤ c ∧ H l = some (.lst [.int a, .int b, .int c]) ∧ E.nx σ (upd H l (DiceO l))
  rt := fun v H => ∃ a b c : Int, 0 ≤ a ∧ 0 ≤ b ∧ 0 ≤ c ∧ H l = some (.lst [.int a, .int b, .int c]) ∧ E.rt v (upd H l (DiceO l))
  bk := fun _ _ => False
  ct := fun _ _ => False
theorem tes_close {l : Addr} {E : Ends} (h : tes X st (clo l E) σ H) : tes X st E σ H := fun pins s I => thn (h pins s I) fun f s' q => by
  cases f with
  | next =>
    obtain ⟨σ', H', I', a, b, c, ha, hb, hc, e, q⟩ := q
    exact ⟨σ', _, view_close I' e ha hb hc, q⟩
  | brk => obtain ⟨σ', H', I', q⟩ := q; exact q.elim
  | cont => obtain ⟨σ', H', I', q⟩ := q; exact q.elim
  | ret u =>
    obtain ⟨v, σ', H', I', r, a, b, c, ha, hb, hc, e, q⟩ := q
    exact ⟨v, σ', _, view_close I' e ha hb hc, r, q⟩
theorem tes_open {l : Addr} {E : Ends} (hl : H l = some (DiceO l)) (h : ∀ a b c : Int, 0 ≤ a → 0 ≤ b → 0 ≤ c → tes X st E σ (upd H l (.lst [.int a, .int b, .int c]))) : tes X st E σ H := fun pins s I => by
  obtain ⟨a, b, c, ha, hb, hc, I'⟩ := view_open I hl
  exact h a b c ha hb hc pins s I'
/-- return a new list of three integers as dice -/
theorem r_retDice {a b c : Int} (h : EvL X δ e [.int a, .int b, .int c]) (ha : 0 ≤ a) (hb : 0 ≤ b) (hc : 0 ≤ c) (k : D.rt .dice) : RunS X δ (.Return (some e) pos :: rest) D := fun M0 M H0 σ H g pins s I => by
  have t := tes_of (σ := σ) (H := H) (D := { nx := fun _ _ => False, bk := fun _ _ => False, ct := fun _ _ => False, rt := fun v H2 => ∃ l xs H1, v = .ref l ∧ Ex H H1 ∧ H1 l = none ∧ H2 = upd H1 l (.lst xs) ∧ reps X.K [.int a, .int b, .int c] xs (hid M H1) }) (pss_cons (rest := rest) (ps_ret (pos := pos) (pe_tev (X := X) (e := e))) pss_never) (h M0 M H0 σ H g)
  refine thn (t pins s I) fun f s' q => ?_
  cases f with
  | next => obtain ⟨σ', H', I', q⟩ := q; exact q.elim
  | brk => obtain ⟨σ', H', I', q⟩ := q; exact q.elim
  | cont => obtain ⟨σ', H', I', q⟩ := q; exact q.elim
  | ret u =>
    obtain ⟨v, σ', H', I', r, l, xs, H1, ev, e1, hn, eH, q⟩ := q
    subst ev eH
    have ex : xs = [.int a, .int b, .int c] := reps_int (r := [a, b, c]).mp q
    subst ex
    refine ⟨.ref l, σ', _, view_close I' upd_same ha hb hc, r, .dice, k, ?_, rep_dice.mpr ⟨l, rfl, ?_⟩⟩
    · rw [upd_upd]
      exact (g.ext.trans e1).trans (Ex.new hn)
    · rw [hid_at fun z => g.dom l (g.sub l z) (e1.back hn), upd_same]
end
end DL

namespace DL
open PySem PySem.Spec PyProof.Rows L2
/-! ### blocks with a list in slot 0 that is known by its address -/
def RunV (X : Cx) (M0 : List Addr) (H0 : Hp) (l : Addr) (δ : List Sl) (st : List Stmt) (E : Ends) : Prop := ∀ M σ H, σ[0]? = some (some (V.ref l)) → Sg X.K M0 M H0 δ σ H → tes X st E σ H
section
variable {X : Cx} {M0 : List Addr} {H0 : Hp} {l : Addr} {δ : List Sl} {a b c e : Expr} {pos p : Pos} {R : Dt → Prop} {x : Str} {d : Dt} {ds : List Dt} {rest u v : List Stmt} {E : Ends}
variable {P : Program} {w : World} {K : PySem.W.Frag} {mg : Str → Option Value} {base : Heap} {k : Nat} {N : List Str} {sc : Scope}
theorem w_setD (n : Nat) (cg : Cg P w K mg base k N sc X) (h : EvD X δ e d) (kk : RunV X M0 H0 l (δ.set n (.im d)) rest E) (hn : n ≠ 0 := by decide) (hx : Nm X n x := by first | exact Cg.nmL (by assumption) rfl rfl | exact Cg.nmC (by assumption) (by assumption) rfl rfl) {px : Pos} (hs : swapsWith e (some (.Name x px)) pos.line X.env = pure false := by rfl) : RunV X M0 H0 l δ (.Assign [.Name x px] e pos :: rest) E := fun M σ H hσ g =>
  tes_of (pss_cons (ps_set (cg.nm ▸ cg.nd) hx.at_ hx.loc pe_tev hs hx.fn) pss_tes) (tev_mono (h M0 M H0 σ H g) fun v H2 ⟨e2, d', ed, q⟩ => by
    cases ed
    exact kk M _ H2 (by rw [List.getElem?_set_ne hn]; exact hσ) ((g.grow e2).set_im n q))
theorem w_put {i : Int} {jn : Nat} (he : EvE X δ e R) (hi : EvD X δ b (.int i)) (hd : δ[0]? = some (Sl.mu ds)) (hj : ixN ds.length i = some jn) (kk : ∀ d, R d → RunV X M0 H0 l (δ.set 0 (.mu (ds.set jn d))) rest E)
    (hN : X.N[0]? = some x := by first | rfl | exact Cg.na (by assumption) rfl) (hv : Vis X.env.scope x := by first | exact Or.inl rfl | exact Or.inr (Or.inl rfl) | exact Or.inr (Or.inr rfl) | exact Cg.vis (by assumption) (by first | exact Or.inl rfl | exact Or.inr (Or.inl rfl) | exact Or.inr (Or.inr rfl)))
    (h1 : (x == ("__debug__" : Str)) = false := by decide) (h2 : (x == ("__classdict__" : Str)) = false := by decide) {px : Pos}
    (ha : ∀ v, assign (.Subscript (.Name x px) b p) X.env v = (do
      let ov ← holding [v] (eval (.Name x px) X.env)
      let iv ← holding [v, ov] (eval b X.env)
      standAt p
      holding [v, ov, iv] (setItem ov iv v)
      release [v, ov, iv] []) := by intro _; rfl)
    (hs : swapsWithSole [.Subscript (.Name x px) b p] e pos.line X.env = pure false := by rfl) (hw : swappedStores [.Subscript (.Name x px) b p] e X.env = pure none := by rfl)
    (hm : (assignEach [.Subscript (.Name x px) b p] X.env).map (·.2) = [assign (.Subscript (.Name x px) b p) X.env] := by rfl) : RunV X M0 H0 l δ (.Assign [.Subscript (.Name x px) b p] e pos :: rest) E := fun M σ H hσ g =>
  tes_of (pss_cons (ps_asg pe_tev (pg_sub (pe_var hN hv h1 h2) pe_tev set_list ha) hs hw hm) pss_tes) (tev_mono (he M0 M H0 σ H g) fun v H1 ⟨e1, d, rd, q⟩ => by
    obtain ⟨l', xs, k1, k2, k3, k4, k5, k6⟩ := (g.grow e1).is_mu 0 ds hd
    refine ⟨.ref l', k4, tev_mono (hi M0 M H0 σ H1 (g.grow e1)) fun y H2 ⟨e2, d', ed, q2⟩ => ?_⟩
    cases ed
    have g2 := (g.grow e1).grow e2
    refine ⟨l', xs, i, jn, rfl, rep_int.mp q2, e2 _ _ k5, by rw [← reps_len k6]; exact hj, kk d rd M σ _ hσ ?_⟩
    exact g2.put hd k4 (e2 _ _ k5) (reps_set (rep_mono (hid_mono e2) q) jn (reps_mono (hid_mono e2) k6)))
theorem w_if {kb : Bool} (h : EvT X δ c kb) (h1 : kb = true → RunV X M0 H0 l δ u { E with nx := tes X rest E }) (h2 : kb = false → RunV X M0 H0 l δ v { E with nx := tes X rest E }) : RunV X M0 H0 l δ (.If c u v pos :: rest) E := fun M σ H hσ g =>
  tes_of (pss_cons (ps_if pt_tet pss_tes pss_tes) pss_tes) (tet_mono (h M0 M H0 σ H g) fun q H2 ⟨e2, ec⟩ => by
    subst ec
    cases q with
    | true =>
      rw [if_pos rfl]
      exact h1 rfl M σ H2 hσ (g.grow e2)
    | false =>
      rw [if_neg Bool.false_ne_true]
      exact h2 rfl M σ H2 hσ (g.grow e2))
theorem w_nil (h : ∀ M σ H, σ[0]? = some (some (V.ref l)) → Sg X.K M0 M H0 δ σ H → E.nx σ H) : RunV X M0 H0 l δ [] E := fun M σ H hσ g => tes_of pss_nil (h M σ H hσ g)
theorem w_ret (h : EvE X δ e R) (k : ∀ M σ H d v, σ[0]? = some (some (V.ref l)) → Sg X.K M0 M H0 δ σ H → R d → rep X.K d v (hid M H) → E.rt v H) : RunV X M0 H0 l δ (.Return (some e) pos :: rest) E := fun M σ H hσ g =>
  tes_of (pss_cons (ps_ret pe_tev) pss_never) (tev_mono (h M0 M H0 σ H g) fun v H2 ⟨e2, d, rd, q⟩ => k M σ H2 d v hσ (g.grow e2) rd q)
end
section
variable {P : Program} {w : World} {K : PySem.W.Frag} {mg : Str → Option Value} {base : Heap}
def S_roll : Sd := fun ds R => ∃ t : Int, ds = [.dice, .int t] ∧ 0 < t ∧ t ≤ 1000 ∧ ∀ i : Int, 0 ≤ i → i < t → R (.int i)
theorem p_law_roll (T : Tx K mg) : FnA P w K mg base 1 (He.ga K "_law_roll") S_roll :=
  fn_ok (N := ["_law_dice_here", "_law_total", "_law_found", "_law_one", "_law_two"]) (ps := ["_law_dice_here", "_law_total"]) (d__law_roll T) (sc_of (by decide +kernel)) (fun _ _ _ _ _ _ us hl => match us, hl with | [_, _], _ => rfl) (fun _ _ ⟨_, e, _⟩ => e ▸ rfl) fun X cg hf ds R ⟨t, ed, t0, t1, hR⟩ => by
    subst ed
    have bf := T.bf
    intro M0 M H0 σ H g
    obtain ⟨v0, hσ0, r0⟩ := g.is_im 0 .dice rfl
    obtain ⟨l, ev, hl⟩ := rep_dice.mp r0
    subst ev
    obtain ⟨lM, hl⟩ := hid_out hl
    obtain ⟨v1, hσ1, r1⟩ := g.is_im 1 (.int t) rfl
    have e1 := rep_int.mp r1
    subst e1
    have hlen := g.len
    refine tes_open hl fun a b c ha hb hc => tes_close (l := l) ?_
    have g' : Sg X.K M0 (l :: M) (hid [l] H0) [.mu [.int a, .int b, .int c], .im (.int t), .no, .no, .no] σ (upd H l (.lst [.int a, .int b, .int c])) := by
      refine ⟨fun z o q => ?_, fun z hz => List.mem_cons_of_mem _ (g.sub z hz), fun z hz => ?_, fun z hz q => ?_, hlen, fun j d hj => ?_, fun j es hj => ?_, fun j C fs hj => ?_, fun j k dj dk hne q1 q2 => ?_⟩
      · obtain ⟨q1, q2⟩ := hid_out q
        rw [upd_ne fun e => q1 (by rw [e]; exact List.mem_cons_self)]
        exact g.ext z o q2
      · rcases List.mem_cons.mp hz with e | hz
        · exact .inr (by rw [e]; unfold hid; rw [if_pos List.mem_cons_self])
        · rcases g.own z hz with q | q
          · exact .inl q
          · refine .inr ?_
            cases e : hid [l] H0 z with
            | none => rfl
            | some o => rw [(hid_out e).2] at q; cases q
      · rcases List.mem_cons.mp hz with e | hz
        · rw [e, upd_same] at q; cases q
        · by_cases e : z = l
          · rw [e, upd_same] at q; cases q
          · rw [upd_ne e] at q
            exact g.dom z hz q
      · match j, hj with
        | 0, hj => cases hj
        | 1, hj =>
          cases hj
          exact ⟨_, hσ1, rep_int.mpr rfl⟩
        | 2, hj => cases hj
        | 3, hj => cases hj
        | 4, hj => cases hj
        | j + 5, hj => exact nomatch (show (none : Option Sl) = some _ from hj)
      · match j, hj with
        | 0, hj =>
          cases hj
          exact ⟨l, _, List.mem_cons_self, fun z => lM (g.sub l z), by unfold hid; rw [if_pos List.mem_cons_self], hσ0, upd_same, reps_int (r := [a, b, c]).mpr rfl⟩
        | 1, hj => cases hj
        | 2, hj => cases hj
        | 3, hj => cases hj
        | 4, hj => cases hj
        | j + 5, hj => exact nomatch (show (none : Option Sl) = some _ from hj)
      · match j, hj with
        | 0, hj => cases hj
        | 1, hj => cases hj
        | 2, hj => cases hj
        | 3, hj => cases hj
        | 4, hj => cases hj
        | j + 5, hj => exact nomatch (show (none : Option Sl) = some _ from hj)
      · have one : ∀ (j : Nat) (d : List Dt), ([Sl.mu [.int a, .int b, .int c], .im (.int t), .no, .no, .no] : List Sl)[j]? = some (.mu d) → j = 0 := fun j d q => by
          match j, q with
          | 0, _ => rfl
          | 1, q => cases q
          | 2, q => cases q
          | 3, q => cases q
          | 4, q => cases q
          | j + 5, q => exact nomatch (show (none : Option Sl) = some _ from q)
        exact absurd ((one j dj q1).trans (one k dk q2).symm) hne
    have fin : ∀ {δ : List Sl} {a b c i : Int} {M2 : List Addr} {σ2 : L2.St} {H2 : Hp} {nx}, δ[0]? = some (.mu [.int a, .int b, .int c]) → 0 ≤ a → 0 ≤ b → 0 ≤ c → 0 ≤ i → i < t → σ2[0]? = some (some (V.ref l)) → Sg X.K M0 M2 (hid [l] H0) δ σ2 H2 → (clo l (dEnds X.K M0 H0 { rt := R, nx := nx })).rt (.int i) H2 := fun {δ a b c i M2 σ2 H2 nx} hd ha hb hc i0 i1 hs g2 => by
      obtain ⟨l', xs, k1, k2, k3, k4, k5, k6⟩ := g2.is_mu 0 _ hd
      rw [hs] at k4
      obtain rfl : l = l' := V.ref.inj (Option.some.inj (Option.some.inj k4))
      rw [reps_int (r := [a, b, c]).mp k6] at k5
      refine ⟨a, b, c, ha, hb, hc, k5, .int i, hR i i0 i1, fun z o q => ?_, rep_int.mpr rfl⟩
      by_cases e : z = l
      · have h1 := g.ext z o q
        rw [e, hl] at h1
        rw [e, upd_same]
        exact h1
      · rw [upd_ne e]
        exact g2.ext z o (by rw [hid_at fun z' => e (List.mem_singleton.mp z')]; exact q)
    refine (show RunV X M0 (hid [l] H0) l [.mu [.int a, .int b, .int c], .im (.int t), .no, .no, .no] _ _ from ?_) (l :: M) σ _ hσ0 g'
    by_cases hpos : 0 < a
    · refine w_if (kb := true) ((t_gt (v_itemM 0 v_int rfl rfl) v_int).is (decide_eq_true hpos)) (fun _ => ?_) fun hh => nomatch hh
      have hm := mod_res t0 a
      refine w_setD (d := .int (a % t)) 2 cg (v_mod t0 (v_int1 (v_itemM 0 v_int rfl rfl)) (v_var 1)) ?_
      refine w_put (R := is_ (.int (a / t))) (jn := 0) (v_fdiv ⟨by omega, by omega⟩ (v_itemM 0 v_int rfl rfl) (v_var 1)) v_int rfl rfl fun d hd => ?_
      cases hd
      refine w_ret (v_var 2) fun M2 σ2 H2 d v hs g2 rd rv => ?_
      cases rd
      rw [rep_int.mp rv]
      exact fin rfl (Int.ediv_nonneg ha (by omega)) hb hc hm.1 hm.2 hs g2
    · refine w_if (kb := false) ((t_gt (v_itemM 0 v_int rfl rfl) v_int).is (decide_eq_false hpos)) (fun hh => nomatch hh) fun _ => w_nil fun M2 σ2 H2 hs2 g2 => ?_
      refine (show RunV X M0 (hid [l] H0) l [.mu [.int a, .int b, .int c], .im (.int t), .no, .no, .no] _ _ from ?_) M2 σ2 H2 hs2 g2
      have e64 : (2 : Int) ^ 64 = 18446744073709551616 := by decide
      refine w_put (R := is_ (.int (c + 1))) (jn := 2) (v_add (v_itemM 0 v_int rfl rfl) v_int) v_int rfl rfl fun d hd => ?_
      cases hd
      have o1 := mod_res (show (0 : Int) < 2305843009213693907 by decide) (b + 49979693 * (c + 1))
      refine w_setD (d := .int ((b + 49979693 * (c + 1)) % 2305843009213693907)) 3 cg (v_mod (by decide) (v_int1 (v_add (v_itemM 0 v_int rfl rfl) (v_mul (.inl (by decide)) v_int (v_itemM 0 v_int rfl rfl)))) v_int) ?_
      generalize (b + 49979693 * (c + 1)) % 2305843009213693907 = one at *
      refine w_setD (d := .int ((one * one + 89 * (c + 1)) % 2305843009213693921 * 7368787 + one)) 4 cg (v_add (v_mul (.inr (by decide)) (v_mod (by decide) (v_int1 (v_add (v_mul (.inl (by rw [e64]; omega)) (v_var 3) (v_var 3)) (v_mul (.inl (by decide)) v_int (v_itemM 0 v_int rfl rfl)))) v_int) v_int) (v_var 3)) ?_
      generalize (one * one + 89 * (c + 1)) % 2305843009213693921 * 7368787 + one = two
      have hm := mod_res t0 (two / 65536)
      refine w_ret (R := is_ (.int (two / 65536 % t))) (v_mod t0 (v_int1 (v_fdiv (by decide) (v_var 4) v_int)) (v_var 1)) fun M3 σ3 H3 d v hs g3 rd rv => ?_
      cases rd
      rw [rep_int.mp rv]
      exact fin rfl ha hb (by omega) hm.1 hm.2 hs g3
end
end DL

namespace DL
open PySem PySem.Spec PyProof.Rows L2
/-! ### a comprehension whose elements are not told, but in a set -/
section
variable {X : Cx} {δ : List Sl} {a b c e elt tg iter : Expr} {scope : Scope} {own : List (Str × Nat)} {pos : Pos} {ds : List Dt} {d : Dt}
variable {P : Program} {w : World} {K : PySem.W.Frag} {mg : Str → Option Value} {base : Heap} {k : Nat} {N : List Str} {sc : Scope} {D : DEnds} {rest : List Stmt} {x y : Str}
theorem lcR_run {α : Type} {xs : List α} {gd : α → Dt} {Ed : Dt → Prop} {vs : List Nat} (hl : xs.length ≤ 100000) (it : IterD X δ tg iter (xs.map gd))
    (step : ∀ a ∈ xs, ∀ M0 M H0 σ H v, Sg X.K M0 M H0 (wipeS δ vs) σ H → rep X.K (gd a) v (hid M H) → tpgB X scope tg v σ H fun σ2 H2 => (∃ is ws, (∀ i ∈ is, i ∈ vs) ∧ σ2 = setO σ is ws) ∧ H2 = H ∧ tevB X scope elt σ2 H2 fun y H4 => Ex H2 H4 ∧ ∃ d, Ed d ∧ rep X.K d y (hid M H4))
    {M0 M : List Addr} {H0 : Hp} {σ : L2.St} {H : Hp} (g : Sg X.K M0 M H0 δ σ H) :
    tLc (tpi X tg iter) (tpgB X scope tg) tYes (tevB X scope elt) vs σ H fun v H2 => ∃ l ys H1 ds, v = .ref l ∧ Ex H H1 ∧ H1 l = none ∧ H2 = upd H1 l (.lst ys) ∧ (ds.length = xs.length ∧ ∀ d ∈ ds, Ed d) ∧ reps X.K ds ys (hid M H1) := by
  refine tpi_mono (it M0 M H0 σ H g) fun J H1 ⟨e1, wk⟩ A hA => ?_
  have gw := (g.grow e1).wiped vs
  have wl := gw.len
  rw [List.length_map] at wk
  refine lc_it wk (fun n H' => (∃ ds : List Dt, (ds.length = min n xs.length ∧ ∀ d ∈ ds, Ed d) ∧ Sg X.K M0 (A :: M) H0 (wipeS δ vs ++ [.mu ds]) (wipe σ vs ++ [some (.ref A)]) H') ∧ Ex H1 H') ⟨⟨[], ⟨by simp, fun d h => nomatch h⟩, ?_⟩, Ex.new hA⟩ (fun n H' _ ⟨_, e⟩ => hid_ex.trans e) ?_ ?_
  · exact gw.push_mu hA (reps_nil.mpr rfl)
  · rintro n x H2 H3 hn ⟨⟨acd, ⟨al, ae⟩, g2⟩, e2⟩ ⟨e3, d, hd, y⟩
    have hnx : n < xs.length := hn
    have ea : xs[n]? = some xs[n] := List.getElem?_eq_getElem hnx
    rw [List.getElem?_map, ea] at hd
    obtain rfl : gd xs[n] = d := Option.some.inj hd
    have nA : A ∉ M := fun z => (g.grow e1).dom A z hA
    have eb : Ex (hid M H1) (hid (A :: M) H2) := fun a o h => by
      obtain ⟨h1, h2⟩ := hid_out h
      rw [hid_at fun z => ?_]
      · exact e2 a o h2
      · rcases List.mem_cons.mp z with q | q
        · rw [q, hA] at h2
          cases h2
        · exact h1 q
    have g3 := g2.grow e3
    have gc := g3.cut wl
    intro s0 h0 C cl fp
    refine tpg_mono (step xs[n] (List.getElem_mem hnx) M0 (A :: M) H0 (wipe σ vs) H3 x gc (y _ g2.dom eb) s0 h0 C cl fp) fun σ2 H4 ⟨⟨is, ws, hi, es⟩, eh, he⟩ => ?_
    subst eh es
    refine ⟨wipe_setO hi, ?_⟩
    unfold tYes
    dsimp only
    rw [if_pos rfl]
    intro s0 h0 C cl fp
    refine tev_mono (he s0 h0 C cl fp) fun v H6 ⟨e6, d6, rd6, r6⟩ => ?_
    have g6 := g3.grow e6
    have hs : (wipeS δ vs ++ [Sl.mu acd])[(wipeS δ vs).length]? = some (.mu acd) := by
      rw [List.getElem?_append_right (Nat.le_refl _), Nat.sub_self]
      rfl
    have ho : (wipe σ vs ++ [some (V.ref A)])[(wipeS δ vs).length]? = some (some (.ref A)) := by
      rw [wl, List.getElem?_append_right (Nat.le_refl _), Nat.sub_self]
      rfl
    obtain ⟨l, acc, k1, k2, k3, k4, k5, k6⟩ := g6.is_mu _ _ hs
    rw [ho] at k4
    obtain rfl : A = l := V.ref.inj (Option.some.inj (Option.some.inj k4))
    have h2 := reps_len k6
    refine ⟨acc, k5, ?_, ⟨acd ++ [d6], ⟨by simp only [List.length_append, List.length_singleton]; omega, fun d hd => ?_⟩, ?_⟩, ((e2.trans e3).trans e6).trans' hA⟩
    · exact Nat.lt_of_le_of_lt (by omega : acc.length ≤ 100000) (by decide)
    · rcases List.mem_append.mp hd with q | q
      · exact ae d q
      · rw [List.mem_singleton.mp q]; exact rd6
    · have g7 := g6.put hs ho k5 (reps_app k6 (reps_mk r6 (reps_nil.mpr rfl)))
      rw [show (wipeS δ vs ++ [Sl.mu acd]).set (wipeS δ vs).length (.mu (acd ++ [d6])) = wipeS δ vs ++ [.mu (acd ++ [d6])] by simp] at g7
      exact g7
  · rintro H2 ⟨⟨acd, ⟨al, ae⟩, g2⟩, e2⟩
    have hs : (wipeS δ vs ++ [Sl.mu acd])[(wipeS δ vs).length]? = some (.mu acd) := by
      rw [List.getElem?_append_right (Nat.le_refl _), Nat.sub_self]
      rfl
    have ho : (wipe σ vs ++ [some (V.ref A)])[(wipeS δ vs).length]? = some (some (.ref A)) := by
      rw [wl, List.getElem?_append_right (Nat.le_refl _), Nat.sub_self]
      rfl
    obtain ⟨l, acc, k1, k2, k3, k4, k5, k6⟩ := g2.is_mu _ _ hs
    rw [ho] at k4
    obtain rfl : A = l := V.ref.inj (Option.some.inj (Option.some.inj k4))
    refine ⟨A, acc, fun a => if a = A then none else H2 a, acd, rfl, fun a o h => ?_, if_pos rfl, ?_, ⟨by omega, ae⟩, reps_mono (fun a o h => ?_) k6⟩
    · have h1 := e1 a o h
      show (if a = A then none else H2 a) = _
      rw [if_neg fun z => by rw [z, hA] at h1; cases h1]
      exact e2 a o h1
    · funext a
      by_cases e : a = A
      · rw [e, upd_same, k5]
      · rw [upd_ne e]
        exact (if_neg e).symm
    · obtain ⟨h1, h2⟩ := hid_out h
      rw [hid_at fun z => h1 (List.mem_cons_of_mem _ z)]
      show (if a = A then none else H2 a) = _
      rw [if_neg fun z => h1 (by rw [z]; exact List.mem_cons_self)]
      exact h2
theorem r_setLcR {α : Type} {xs : List α} {gd : α → Dt} {Ed : Dt → Prop} {is : List Nat} {δF : α → List Sl} (n : Nat) (own : List (Str × Nat)) {py spos : Pos} (cg : Cg P w K mg base k N sc X) (hl : xs.length ≤ 100000) (it : IterD X δ tg iter (xs.map gd))
    (body : ∀ XB, Cg P w K mg base k N (relS scope sc) XB → ∀ a ∈ xs, TgD XB tg is (wipeS δ (own.map (·.2))) (gd a) (δF a) ∧ EvE XB (δF a) elt Ed)
    (kk : ∀ ds : List Dt, ds.length = xs.length → (∀ d ∈ ds, Ed d) → RunS X (δ.set n (.mu ds)) rest D) (hi : ∀ i ∈ is, i ∈ own.map (·.2) := by decide) (ok : BlkOk N sc scope own := by exact blkOk_by (by decide +kernel)) (hk : sc.kind = .function := by rfl) (hn : N[n]? = some y := by rfl) (hy : sc.names.lookup y = some .local := by rfl) (hline : (py.line == pos.line) = true := by rfl)
    (ho : (scope.names.any fun (n, k) => n == y && (k == .local || k == .cell)) = false := by decide +kernel) (hs : ∀ x, foldedSetIterable iter X.env x = pure x := by intro _; rfl) : RunS X δ (.Assign [.Name y py] (.ListComp elt [⟨tg, iter, [], 0⟩] scope pos) spos :: rest) D := by
  have ok' : BlkOk X.N X.env.scope scope own := by
    rw [cg.nm, cg.scp]
    exact ok
  refine r_of (ps_setLc cg.calm (cg.nm ▸ cg.nd) (cg.na hn) (by rw [cg.scp]; exact hy) (sw_true (by rw [cg.scp]; exact hk) (by rw [cg.scp]; exact hy) hline ho) pi_tpi ok' pg_B (fun s H C cl fp => pts_nil) pe_B hs) fun M0 M H0 σ H g => ?_
  have q := lcR_run (scope := scope) (elt := elt) (Ed := Ed) (vs := own.map (·.2)) hl it (fun a ha M0 M H0 σ H v g r => ?_) g
  · refine tLc_mono q fun v H2 ⟨l, xs, H1, ds, ev, e1, hn, eh, ⟨dl, de⟩, r⟩ => ?_
    subst ev eh
    exact kk ds dl de M0 _ H0 _ _ ((g.grow e1).new_mu n hn r)
  · intro s0 h0 C cl fp
    obtain ⟨b1, _⟩ := body _ (cg.blk s0 h0 C cl fp) a ha
    refine tpg_mono (b1 M0 M H0 σ H v g r) fun σ2 H2 ⟨ws, es, eh, g2⟩ => ⟨⟨is, ws, hi, es⟩, eh, ?_⟩
    subst eh
    intro s0 h0 C cl fp
    obtain ⟨_, b3⟩ := body _ (cg.blk s0 h0 C cl fp) a ha
    exact b3 M0 M H0 σ2 H2 g2
end
end DL

namespace DL
/-! ### drawn rows -/
def freeRow (p : Int) (r : List Int) : Bool := !decide (dervP p r = []) && decide (mulP p (cstR p (invI p ((gcdP p r (dervP p r)).getLastD 0))) (gcdP p r (dervP p r)) = [1])
def digS (p : Int) (s : List Int × Int) : List Int × Int := (s.1 ++ [s.2 % p], s.2 / p)
def digF (p : Int) (d : Nat) (n : Int) : List Int × Int := (List.range d).foldl (fun s _ => digS p s) ([], n)
def rowN (p : Int) (d : Nat) (n : Int) : List Int := (digF p d n).1 ++ [1]
theorem digS_len (p : Int) : ∀ (l : List Nat) (s : List Int × Int), (l.foldl (fun s _ => digS p s) s).1.length = s.1.length + l.length
  | [], s => rfl
  | x :: l, s => by
    rw [List.foldl_cons, digS_len p l]
    unfold digS
    simp only [List.length_append, List.length_cons, List.length_nil]
    omega
theorem digS_res {p : Int} (hp : 0 < p) : ∀ (l : List Nat) (s : List Int × Int), Res p s.1 → Res p (l.foldl (fun s _ => digS p s) s).1
  | [], s, h => h
  | x :: l, s, h => by
    rw [List.foldl_cons]
    refine digS_res hp l _ fun y hy => ?_
    rcases List.mem_append.mp hy with q | q
    · exact h y q
    · rw [List.mem_singleton.mp q]; exact mod_res hp _
theorem rowN_len (p : Int) (d : Nat) (n : Int) : (rowN p d n).length = d + 1 := by
  unfold rowN digF
  rw [List.length_append, digS_len, List.length_range]
  simp
theorem wr_rowN {p : Int} (hp : Pr p) (d : Nat) (n : Int) : WR p (rowN p d n) := by
  refine ⟨fun x hx => ?_, ?_⟩
  · rcases List.mem_append.mp hx with q | q
    · exact digS_res hp.pos _ ([], n) (fun y hy => absurd hy (List.not_mem_nil)) x q
    · have := hp.ge
      rw [List.mem_singleton.mp q]; omega
  · unfold rowN
    simp
theorem made_ok {p : Int} {d : Nat} (hp : Pr p) (hd : d = 2 ∨ d = 4 ∨ d = 6) : ∃ n0 : Nat, n0 ≤ 3 ∧ (∀ n : Nat, n < n0 → freeRow p (rowN p d n) = false) ∧ freeRow p (rowN p d n0) = true := by
  rcases hp with rfl | rfl | rfl <;> rcases hd with rfl | rfl | rfl
  · exact ⟨1, by decide, by decide +kernel, by decide +kernel⟩
  · exact ⟨1, by decide, by decide +kernel, by decide +kernel⟩
  · exact ⟨3, by decide, by decide +kernel, by decide +kernel⟩
  · exact ⟨1, by decide, by decide +kernel, by decide +kernel⟩
  · exact ⟨1, by decide, by decide +kernel, by decide +kernel⟩
  · exact ⟨1, by decide, by decide +kernel, by decide +kernel⟩
  · exact ⟨1, by decide, by decide +kernel, by decide +kernel⟩
  · exact ⟨1, by decide, by decide +kernel, by decide +kernel⟩
  · exact ⟨1, by decide, by decide +kernel, by decide +kernel⟩
theorem wr_bump {p : Int} {r : List Int} (hp : 0 < p) (h : WR p r) (hl : 2 ≤ r.length) (x : Int) : WR p (x % p :: r.drop 1) ∧ (x % p :: r.drop 1).length = r.length := by
  match r, h, hl with
  | a :: b :: r, h, hl =>
    refine ⟨⟨fun y hy => ?_, ?_⟩, rfl⟩
    · rcases List.mem_cons.mp hy with q | q
      · rw [q]; exact mod_res hp _
      · exact h.res y (List.mem_cons_of_mem _ q)
    · have := h.top
      simpa using this
end DL

namespace DL
open PySem PySem.Spec PyProof.Rows L2
section
variable {X : Cx} {δ : List Sl} {a b e : Expr} {pos p1 : Pos} {Ra Rb R : Dt → Prop} {ds : List Dt}
theorem v_addTN (ha : EvE X δ a Ra) (hb : EvE X δ b Rb) (h : ∀ x y, Ra x → Rb y → ∃ ds es, x = .tup ds ∧ y = .tup es ∧ ds.length + es.length ≤ 100000 ∧ R (.tup (ds ++ es))) : EvE X δ (.BinOp a .Add b pos) R := v_op op_catA ha hb fun dx dy r1 r2 M H vx vy dom rx ry => by
  obtain ⟨ds, es', e1, e2, hl, hR⟩ := h dx dy r1 r2
  subst e1 e2
  obtain ⟨a, xs, rfl, h1, h2⟩ := rep_tup.mp rx
  obtain ⟨b, ys, rfl, h3, h4⟩ := rep_tup.mp ry
  refine ⟨a, b, xs, ys, rfl, rfl, hid_ex.t h1, hid_ex.t h3, by rw [← reps_len h2, ← reps_len h4]; exact Nat.le_trans hl (by decide), fun e => ⟨Ex.rfl, _, hR, ?_⟩, fun _ e => ⟨Ex.rfl, _, hR, ?_⟩, fun _ _ p hp => ⟨Ex.new hp, _, hR, rep_new dom hp (reps_app h2 h4)⟩⟩
  · have e2 : ds = [] := List.eq_nil_of_length_eq_zero (by rw [reps_len h2, e]; rfl)
    rw [e2]
    exact ry
  · have e2 : es' = [] := List.eq_nil_of_length_eq_zero (by rw [reps_len h4, e]; rfl)
    rw [e2, List.append_nil]
    exact rx
end
section
variable {P : Program} {w : World} {K : PySem.W.Frag} {mg : Str → Option Value} {base : Heap}
section
variable {X : Cx} {δ : List Sl} {e1 e2 : Expr} {pos p1 : Pos} {k : Nat} {N : List Str} {sc : Scope} {t : Int}
/-- an integer from lo on, below hi -/
abbrev Ib (lo hi : Int) : Dt → Prop := fun d => ∃ i : Int, d = .int i ∧ lo ≤ i ∧ i < hi
theorem y_roll (T : Tx K mg) (cg : Cg P w K mg base k N sc X) (h1 : EvD X δ e1 .dice) (h2 : EvD X δ e2 (.int t)) (t0 : 0 < t) (t1 : t ≤ 1000) (hn : 1 ≤ k := by decide) (hg : Gl X "_law_roll" := by first | rfl | exact Cg.gl (by assumption) rfl)
    (q1 : starEach [e1, e2] X.env = (false, eval e1 X.env) :: starEach [e2] X.env := by rfl) (q2 : starEach [e2] X.env = (false, eval e2 X.env) :: starEach [] X.env := by rfl) (hpl : (backTo pos (starEach [e2] X.env)).any (·.1) = false := by rfl) : EvE X δ (.Call (.Name "_law_roll" p1) [e1, e2] [] pos) (Ib 0 t) :=
  v_fn cg (p_law_roll T) (d__law_roll T) (g__law_roll T) (a_d h1 (a_d h2 a_nil q2) q1) ⟨t, rfl, t0, t1, fun i h h' => ⟨i, rfl, h, h'⟩⟩ hn hg (by decide) q1 hpl
end
theorem ints_row {p : Int} : ∀ es : List Dt, (∀ d ∈ es, Ib 0 p d) → ∃ r : List Int, es = rowD r ∧ r.length = es.length ∧ Res p r
  | [], _ => ⟨[], rfl, rfl, fun x hx => absurd hx List.not_mem_nil⟩
  | e :: es, he => by
    obtain ⟨i, ei, i0, i1⟩ := he e List.mem_cons_self
    obtain ⟨r, e1, e2, e3⟩ := ints_row es fun x hx => he x (List.mem_cons_of_mem _ hx)
    refine ⟨i :: r, by rw [ei, e1]; rfl, by rw [List.length_cons, e2, List.length_cons], fun x hx => ?_⟩
    rcases List.mem_cons.mp hx with q | q
    · rw [q]; exact ⟨i0, i1⟩
    · exact e3 x q
theorem p_law_dice (T : Tx K mg) : FnA P w K mg base 1 (He.ga K "_law_dice") (fun ds R => ∃ (ns : List Int) (i : Nat), ds = [.scr ns, .int (i : Nat)] ∧ i ≤ 10 ∧ R .dice) :=
  fn_ok (N := ["_law_script", "_law_spot", "_law_cell", "_law_left"]) (ps := ["_law_script", "_law_spot"]) (d__law_dice T) (sc_of (by decide +kernel)) (fun _ _ _ _ _ _ us hl => match us, hl with | [_, _], _ => rfl) (fun _ _ ⟨_, _, e, _⟩ => e ▸ rfl) fun X cg hf ds R ⟨ns, i, ed, hi, hR⟩ => by
    subst ed
    have bf := T.bf
    refine r_set 2 (R := fun d => ∃ c : Int, d = .int c) cg (v_ifExp (t_lt (v_var 1) (v_len .s (v_var 0))) (fun h => ?_) fun h => ?_) fun d ⟨c, hd⟩ => ?_
    · have h := of_decide_eq_true h
      rw [row_len] at h
      exact (v_int1 (v_item .s (v_var 0) (v_var 1) (atI_is (m := i) rfl (by omega)))).mono fun d e => ⟨_, e⟩
    · exact (v_add (v_mul (.inl (by decide)) v_int (v_var 1)) v_int).mono fun d e => ⟨_, e⟩
    · subst hd
      have hp : (0 : Int) < 10 ^ (60 : Int).toNat * 10 ^ (60 : Int).toNat := by decide +kernel
      refine r_set 3 (R := fun d => ∃ c : Int, d = .int c ∧ 0 ≤ c) cg ((v_mod hp (v_max2 cg v_int (v_sub (v_absN (v_var 2)) (v_pow (by decide) v_int v_int))) (v_mulW (by unfold CMulW; decide +kernel) (v_pow (by decide) v_int v_int) (v_pow (by decide) v_int v_int))).mono fun d e => ⟨_, e, (mod_res hp _).1⟩) fun d ⟨a, hd, ha⟩ => ?_
      subst hd
      have h2 := mod_res (show (0 : Int) < 1152921504606846899 by decide) ((c.natAbs : Nat) : Int)
      refine r_retDice (l_lst (a_d (v_var 3) (a_d (v_add (v_add (v_add (v_mul (.inr (by decide)) (v_mod (by decide) (v_absN (v_var 2)) v_int) v_int) (v_mul (.inl (by decide)) v_int (v_var 1))) (v_mul (.inl (by decide)) v_int (v_intB (v_lt (v_var 2) v_int)))) v_int) (a_d v_int a_nil)))) ha ?_ (by decide) hR
      split <;> omega
theorem p_law_pick (T : Tx K mg) : FnA P w K mg base 2 (He.ga K "_law_pick") (fun ds R => ∃ l : List Int, ds = [.dice, .lst (rowD l)] ∧ l ≠ [] ∧ l.length ≤ 100 ∧ ∀ x ∈ l, R (.int x)) :=
  fn_ok (N := ["_law_dice_here", "_law_items"]) (ps := ["_law_dice_here", "_law_items"]) (d__law_pick T) (sc_of (by decide +kernel)) (fun _ _ _ _ _ _ us hl => match us, hl with | [_, _], _ => rfl) (fun _ _ ⟨_, e, _⟩ => e ▸ rfl) fun X cg hf ds R ⟨l, ed, hl, h1, hR⟩ => by
    subst ed
    have bf := T.bf
    have l0 : 0 < l.length := List.length_pos_iff.mpr hl
    refine r_ret (v_itemN .l (v_var 1) (y_roll T cg (v_var 0) (v_len .l (v_var 1)) (by rw [row_len]; omega) (by rw [row_len]; omega)) fun y hy => ?_)
    obtain ⟨i, e, i0, i1⟩ := hy
    refine ⟨i, .int (getI l i.toNat), e, ?_, ?_⟩
    · rw [row_len] at i1
      exact atI_is (m := i.toNat) (by omega) (by omega)
    · rw [row_len] at i1
      rw [getI_lt (by omega)]
      exact hR _ (List.getElem_mem _)
theorem p_law_row_drawn (T : Tx K mg) : FnA P w K mg base 2 (He.ga K "_law_row_drawn") (fun ds R => ∃ (p : Int) (_ : PC p) (d : Nat), ds = [.dice, .int p, .int (d : Nat)] ∧ d ≤ 100 ∧ ∀ a : Pol p, a.len = d + 1 → R (rD a)) :=
  fn_ok (N := ["_law_dice_here", "_law_prime", "_law_degree", "_law_entries", "_law_turn"]) (ps := ["_law_dice_here", "_law_prime", "_law_degree"]) (d__law_row_drawn T) (sc_of (by decide +kernel)) (fun _ _ _ _ _ _ us hl => match us, hl with | [_, _, _], _ => rfl) (fun _ _ ⟨_, _, _, e, _⟩ => e ▸ rfl) fun X cg hf ds R ⟨p, hp, d, ed, hd, hR⟩ => by
    subst ed
    have bf := T.bf
    have h0 := hp.pos
    have h3 := hp.pr.ge
    have h7 := hp.pr.le
    refine r_setLcR (xs := rangeD 0 1 d) (gd := Dt.int) (Ed := Ib 0 p) 3 [("_law_turn", 4)] cg (by rw [rangeD_len]; omega) ((it_range1 (v_var 2) (range62 (by omega) (by omega))).is (by rw [Int.toNat_natCast])) (fun XB cb q hq => ⟨tg_name 4 cb, y_roll T cb (v_var 0) (v_var 1) h0 (by omega)⟩) fun es hl he => ?_
    rw [rangeD_len] at hl
    obtain ⟨r, e1, e2, e3⟩ := ints_row es he
    rw [hl] at e2
    subst e1
    refine r_ret (v_addTN (v_tupM 3 rfl) (v_tup (R := fun d => ∃ i : Int, d = .tup [.int i] ∧ 1 ≤ i ∧ i < p) (Rs := fun ds => ∃ i : Int, ds = [.int i] ∧ 1 ≤ i ∧ i < p) ((a_cons (v_addN (Rb := Ib 0 (p - 1)) (R := Ib 1 p) v_int (y_roll T cg (v_var 0) (v_sub (v_var 1) v_int) (by omega) (by omega)) fun x y hx ⟨i, ey, i0, i1⟩ => ⟨1, i, hx, ey, 1 + i, rfl, by omega, by omega⟩) a_nil).mono fun ds ⟨d, r, e, ⟨i, ei, i0, i1⟩, er⟩ => ⟨i, by rw [e, ei, er], i0, i1⟩) (fun ds ⟨i, e, _⟩ => by rw [e]; simp) fun ds ⟨i, e, h⟩ => ⟨i, by rw [e], h⟩) fun x y hx ⟨i, ey, i0, i1⟩ => ⟨_, _, hx, ey, ?_, ?_⟩)
    · rw [row_len]
      show r.length + 1 ≤ 100000
      omega
    · have w : WR p (r ++ [i]) := ⟨fun x hx => by
        rcases List.mem_append.mp hx with q | q
        · exact e3 x q
        · rw [List.mem_singleton.mp q]; omega, by simp; omega⟩
      have := hR ⟨r ++ [i], w⟩ (by show (r ++ [i]).length = d + 1; rw [List.length_append, e2]; rfl)
      rw [show (rowD r ++ [Dt.int i]) = rowD (r ++ [i]) from by rw [← row_app]; rfl]
      exact this
end
end DL

namespace DL
open PySem PySem.Spec PyProof.Rows L2
/-- a curve's polynomial as it is drawn -/
structure CDF (p : Int) [PC p] (f : Pol p) (n : Nat) (s : Int) : Prop where
  cd : CD p f n s
  fr : free0 p f.r
theorem roots_mem {p c x : Int} (h : x ∈ rootsOf p c) : x * x % p = c ∧ 0 ≤ x ∧ x < p := by
  unfold rootsOf at h
  obtain ⟨h1, h2⟩ := List.mem_filter.mp h
  obtain ⟨i, hi, rfl⟩ := List.mem_map.mp h1
  have := List.mem_range.mp hi
  refine ⟨of_decide_eq_true h2, Int.natCast_nonneg i, ?_⟩
  show (i : Int) < p
  omega
theorem mem_roots {p c x : Int} (h : x * x % p = c) (h0 : 0 ≤ x) (h1 : x < p) : x ∈ rootsOf p c := by
  unfold rootsOf
  refine List.mem_filter.mpr ⟨List.mem_map.mpr ⟨x.toNat, List.mem_range.mpr (by omega), ?_⟩, decide_eq_true h⟩
  show ((x.toNat : Nat) : Int) = x
  omega
theorem cd_of {p : Int} [hp : PC p] {a : Pol p} {n : Nat} {r : Int} (hn : n = 1 ∨ n = 2 ∨ n = 3) (hl : a.len = n + n + 1) (hf : free0 p a.r) (h0 : 0 < r) (h1 : r < p) : ∃ s, CDF p (Pol.C p (r * r) * mon1 a) n s := by
  have a0 : a ≠ 0 := fun z => by rw [z, zero_len] at hl; omega
  have l := ld_pos a0
  have iv := inv_mod (p := p) l.1 l.2
  have r0 := sm_ne h0 h1
  have rr := res_mul_ne hp.pr r0 r0
  have f1 : free0 p (mon1 a).r := free_scl iv.2 hf
  have f2 : free0 p (Pol.C p (r * r) * mon1 a).r := free_scl rr f1
  have ta := Pol.top_of a0
  rw [hl, Nat.add_sub_cancel] at ta
  have t1 : (mon1 a).Top (n + n) 1 := by
    have := (Pol.C_top (p := p) (invI p a.ld)).mul ta
    rw [Nat.zero_add] at this
    exact this.congr (by rw [iv.1, one_mod])
  have t2 : (Pol.C p (r * r) * mon1 a).Top (n + n) (r * r) := by
    have := (Pol.C_top (p := p) (r * r)).mul t1
    rw [Nat.zero_add] at this
    exact this.congr (by rw [Int.mul_one])
  have fl := t2.len rr
  have fd := t2.ld rr
  generalize Pol.C p (r * r) * mon1 a = f at *
  have hm : r ∈ rootsOf p f.ld := mem_roots fd.symm (Int.le_of_lt h0) h1
  have ⟨s, hs⟩ : ∃ s, (rootsOf p f.ld)[0]? = some s := by
    cases e : rootsOf p f.ld with
    | nil => rw [e] at hm; exact absurd hm List.not_mem_nil
    | cons x l => exact ⟨x, rfl⟩
  have hsm := roots_mem (List.mem_of_getElem? hs)
  have f0 : f ≠ 0 := fun z => by rw [z, zero_len] at fl; omega
  have ll := ld_pos f0
  refine ⟨s, ⟨hn, fl, ⟨?_, hsm.2.2⟩, hsm.1, ⟨by show f.len % 2 = 1; omega, fun z => ?_⟩, hs, free_nosq f2 (by omega)⟩, f2⟩
  · by_cases z : s = 0
    · have := hsm.1
      rw [z] at this
      have e0 : (0 : Int) * 0 % p = 0 := by rw [Int.mul_zero]; rfl
      omega
    · omega
  · have z' : rootsOf p f.ld = [] := z
    rw [z'] at hm
    exact absurd hm List.not_mem_nil
section
variable {P : Program} {w : World} {K : PySem.W.Frag} {mg : Str → Option Value} {base : Heap}
theorem p_law_free_made (T : Tx K mg) : FnA P w K mg base 6 (He.ga K "_law_free_made") (fun ds R => ∃ (p : Int) (_ : PC p) (d : Nat), ds = [.int p, .int (d : Nat)] ∧ (d = 2 ∨ d = 4 ∨ d = 6) ∧ ∀ a : Pol p, a.len = d + 1 → free0 p a.r → R (rD a)) :=
  fn_ok (N := ["_law_prime", "_law_degree", "_law_number", "_law_turn", "_law_entries", "_law_left", "_law_place"]) (ps := ["_law_prime", "_law_degree"]) (d__law_free_made T) (sc_of (by decide +kernel)) (fun _ _ _ _ _ _ us hl => match us, hl with | [_, _], _ => rfl) (fun _ _ ⟨_, _, _, e, _⟩ => e ▸ rfl) fun X cg hf ds R ⟨p, hp, d, ed, hd, hR⟩ => by
    subst ed
    have bf := T.bf
    have h0 := hp.pos
    have h7 := hp.pr.le
    have hd6 : d ≤ 6 := by omega
    obtain ⟨n0, hn0, hfalse, htrue⟩ := made_ok hp.pr hd
    refine r_setD 2 cg v_int ?_
    refine r_for cg (it_range1 v_int (range62 (by decide) (by decide))) (fun n δ' => ∃ z3 z4 z5 z6 : Sl, δ' = [.im (.int p), .im (.int (d : Nat)), .im (.int (n : Nat)), z3, z4, z5, z6] ∧ n ≤ n0) ⟨_, _, _, _, rfl, Nat.zero_le _⟩ (fun n dd δ' hdd hI => ?_) fun δ' hI => ?_
    · obtain ⟨z3, z4, z5, z6, e, hn⟩ := hI
      subst e
      refine ⟨[3], _, tg_name 3 cg, ?_⟩
      refine r_par2 4 5 cg (s_mu (l_lst a_nil) (s_im (v_var 2) s_nil)) ?_
      let st : List Int × Int → List Sl := fun s => [.im (.int p), .im (.int (d : Nat)), .im (.int (n : Nat)), .im dd, .mu (rowD s.1), .im (.int s.2), .no]
      have hdig : (rangeD 0 1 d).foldl (fun s _ => digS p s) ([], (n : Int)) = digF p d n := by
        unfold digF rangeD
        rw [List.foldl_map]
      refine r_forF (xs := rangeD 0 1 d) (g := Dt.int) cg ((it_range1 (v_var 1) (range62 (by omega) (by omega))).is (by rw [Int.toNat_natCast])) st (fun s _ => digS p s) ([], (n : Int)) (.eq (.eq (.eq (.eq (.eq (.eq (.no .nil))))))) (fun m q hq => ⟨tg_name 6 cg, ?_⟩) ?_
      · have hm := (List.getElem?_eq_some_iff.mp hq).1
        rw [rangeD_len] at hm
        generalize hs : ((rangeD 0 1 d).take m).foldl (fun s _ => digS p s) ([], (n : Int)) = s
        have ls : s.1.length ≤ 10 := by
          rw [← hs]
          have key : ∀ (l : List Int) (s : List Int × Int), (l.foldl (fun s _ => digS p s) s).1.length = s.1.length + l.length := fun l => by
            induction l with
            | nil => exact fun s => rfl
            | cons x l ih =>
              intro s
              rw [List.foldl_cons, ih]
              unfold digS
              simp only [List.length_append, List.length_cons, List.length_nil]
              omega
          rw [key, List.length_take, rangeD_len]
          simp
          omega
        refine r_append 4 (R := is_ (.int (s.2 % p))) (v_mod h0 (v_int1 (v_var 5)) (v_var 0)) rfl (by rw [row_len]; omega) fun dx hx => ?_
        cases hx
        refine r_setD (d := .int (s.2 / p)) 5 cg (v_fdiv ⟨h0, by omega⟩ (v_var 5) (v_var 0)) (r_nil ?_)
        have e2 : rowD s.1 ++ [Dt.int (s.2 % p)] = rowD (digS p s).1 := by
          unfold digS
          rw [← row_app]; rfl
        rw [e2]
        exact .eq (.eq (.eq (.eq (.eq (.eq (.no .nil))))))
      · rw [hdig]
        have w := wr_rowN hp.pr d (n : Int)
        have wl := rowN_len p d (n : Int)
        have erow : rowD (digF p d n).1 ++ [Dt.int 1] = rowD (rowN p d n) := by
          unfold rowN
          rw [← row_app]; rfl
        have dl : (digF p d n).1.length = d := by
          have := rowN_len p d (n : Int)
          unfold rowN at this
          rw [List.length_append, List.length_singleton] at this
          omega
        have harg : ∀ {δ : List Sl} {q0 q1 q2 q3 q4 q5 : Pos} {j kt : Nat}, δ[4]? = some (.mu (rowD (digF p d n).1)) → EvD X δ (.BinOp (.Call (.Name "tuple" q1) [.Name "_law_entries" q2] [] q3) .Add (.Tuple [.Constant (.int 1) j q4] kt q5) q0) (rD (⟨rowN p d n, w⟩ : Pol p)) := fun h => (v_addT (by rw [row_len, dl]; show d + 1 ≤ 100000; omega) (v_tupM 4 h) (v_tupD (a_d v_int a_nil))).is (by rw [erow])
        by_cases hfree : freeRow p (rowN p d n) = true
        · refine r_if (k := true) ((t_val (v_fn cg (p_law_is_free T) (d__law_is_free T) (g__law_is_free T) (a_d (v_var 0) (a_d (harg rfl) a_nil)) ⟨p, hp, ⟨rowN p d n, w⟩, rfl, by show (rowN p d n).length ≤ 900; rw [wl]; omega, rfl⟩)).is hfree) (fun _ => r_break ?_) fun hh => nomatch hh
          exact r_retD (harg rfl) (hR ⟨rowN p d n, w⟩ wl (freeB_ok (a := ⟨rowN p d n, w⟩) hfree))
        · have hfree' : freeRow p (rowN p d n) = false := by
            cases hx : freeRow p (rowN p d n) with
            | false => rfl
            | true => exact absurd hx hfree
          have hlt : n < n0 := by
            by_cases z : n = n0
            · rw [z] at hfree'
              rw [htrue] at hfree'
              cases hfree'
            · omega
          refine r_if (k := false) ((t_val (v_fn cg (p_law_is_free T) (d__law_is_free T) (g__law_is_free T) (a_d (v_var 0) (a_d (harg rfl) a_nil)) ⟨p, hp, ⟨rowN p d n, w⟩, rfl, by show (rowN p d n).length ≤ 900; rw [wl]; omega, rfl⟩)).is hfree') (fun hh => nomatch hh) fun _ => r_nil ?_
          refine r_setD (d := .int ((n + 1 : Nat) : Int)) 2 cg ((v_add (v_var 2) v_int).is (by congr 1)) (r_nil ?_)
          exact ⟨_, _, _, _, rfl, hlt⟩
    · obtain ⟨z3, z4, z5, z6, e, hn⟩ := hI
      rw [row_len, rangeD_len] at hn
      exfalso
      have : ((900 : Int)).toNat = 900 := rfl
      omega
theorem p_law_free_drawn (T : Tx K mg) : FnA P w K mg base 7 (He.ga K "_law_free_drawn") (fun ds R => ∃ (p : Int) (_ : PC p) (d : Nat), ds = [.dice, .int p, .int (d : Nat)] ∧ (d = 2 ∨ d = 4 ∨ d = 6) ∧ ∀ a : Pol p, a.len = d + 1 → free0 p a.r → R (rD a)) :=
  fn_ok (N := ["_law_dice_here", "_law_prime", "_law_degree", "_law_row", "_law_turn"]) (ps := ["_law_dice_here", "_law_prime", "_law_degree"]) (d__law_free_drawn T) (sc_of (by decide +kernel)) (fun _ _ _ _ _ _ us hl => match us, hl with | [_, _, _], _ => rfl) (fun _ _ ⟨_, _, _, e, _⟩ => e ▸ rfl) fun X cg hf ds R ⟨p, hp, d, ed, hd, hR⟩ => by
    subst ed
    have bf := T.bf
    have h0 := hp.pos
    have h7 := hp.pr.le
    have hd6 : d ≤ 6 ∧ 2 ≤ d := by omega
    refine r_set 3 (R := fun x => ∃ a : Pol p, x = rD a ∧ a.len = d + 1) cg (v_fn cg (p_law_row_drawn T) (d__law_row_drawn T) (g__law_row_drawn T) (a_d (v_var 0) (a_d (v_var 1) (a_d (v_var 2) a_nil))) ⟨p, hp, d, rfl, by omega, fun a h => ⟨a, rfl, h⟩⟩) fun x ⟨a, hx, la⟩ => ?_
    subst hx
    refine r_for cg (it_range1 v_int (range62 (by decide) (by decide))) (fun n δ' => ∃ (a : Pol p) (z : Sl), δ' = [.im .dice, .im (.int p), .im (.int (d : Nat)), .im (rD a), z] ∧ a.len = d + 1) ⟨a, _, rfl, la⟩ (fun n dd δ' hdd hI => ?_) fun δ' hI => ?_
    · obtain ⟨a, z, e, la⟩ := hI
      subst e
      refine ⟨[4], _, tg_name 4 cg, ?_⟩
      have hdi : ∃ i : Int, dd = .int i := by
        have := List.mem_of_getElem? hdd
        obtain ⟨i, _, e⟩ := List.mem_map.mp this
        exact ⟨i, e.symm⟩
      obtain ⟨i, ei⟩ := hdi
      subst ei
      refine r_if (k := freeB a) (t_val (v_fn cg (p_law_is_free T) (d__law_is_free T) (g__law_is_free T) (a_d (v_var 1) (a_d (v_var 3) a_nil)) ⟨p, hp, a, rfl, by omega, rfl⟩)) (fun hh => r_retD (v_var 3) (hR a la (freeB_ok hh))) fun hh => r_nil ?_
      have lr : a.r.length = d + 1 := la
      have wb := wr_bump h0 a.w (by omega : 2 ≤ a.r.length) (getI a.r 0 + 1)
      have ha0 : atI (rowD a.r) 0 = some (.int (getI a.r 0)) := atI_is (m := 0) rfl (by omega)
      refine r_set 3 (R := fun x => ∃ a : Pol p, x = rD a ∧ a.len = d + 1) cg (v_ifExp (t_lt (v_var 4) (v_var 1)) (fun _ => ?_) fun _ => ?_) fun x ⟨a', hx, la'⟩ => ?_
      · refine (v_addT ?_ (v_tupD (a_d (v_mod h0 (v_int1 (v_add (v_item .t (v_var 3) v_int ha0) v_int)) (v_var 1)) a_nil)) (v_slT (v_var 3) (o_some v_int) o_none)).mono fun x hx => ⟨⟨(getI a.r 0 + 1) % p :: a.r.drop 1, wb.1⟩, ?_, ?_⟩
        · unfold cutD
          simp only [List.length_take, List.length_drop, List.length_map, List.length_cons, List.length_nil]
          omega
        · have hc : cutD (rowD a.r) (some (1 : Int)) none = rowD (a.r.drop 1) := cutD_from (n := 1) (by omega)
          rw [hx, hc]
          rfl
        · show ((getI a.r 0 + 1) % p :: a.r.drop 1).length = d + 1
          rw [wb.2, lr]
      · exact v_fn cg (p_law_row_drawn T) (d__law_row_drawn T) (g__law_row_drawn T) (a_d (v_var 0) (a_d (v_var 1) (a_d (v_var 2) a_nil))) ⟨p, hp, d, rfl, by omega, fun a h => ⟨a, rfl, h⟩⟩
      · subst hx
        exact r_nil ⟨a', _, rfl, la'⟩
    · obtain ⟨a, z, e, la⟩ := hI
      subst e
      refine r_ret (v_ifExp (k := false) ((t_eqI (v_var 2) v_int).is (decide_eq_false (by omega))) (fun hh => nomatch hh) fun _ => ?_)
      exact v_fn cg (p_law_free_made T) (d__law_free_made T) (g__law_free_made T) (a_d (v_var 1) (a_d (v_var 2) a_nil)) ⟨p, hp, d, rfl, hd, hR⟩
end
end DL

namespace DL
open PySem PySem.Spec PyProof.Rows L2
section
variable {P : Program} {w : World} {K : PySem.W.Frag} {mg : Str → Option Value} {base : Heap}
theorem fx_map {p : Int} [hp : PC p] {r : Int} (h : r * r % p ≠ 0) (a : Pol p) : a.r.map (fun e => e * r * r % p) = (Pol.C p (r * r) * a).r := by
  rw [← mul_row h]
  apply List.map_congr_left
  intro x _
  rw [Int.mul_assoc]
theorem p_law_even_curve (T : Tx K mg) : FnA P w K mg base 8 (He.ga K "_law_even_curve") (fun ds R => ds = [.dice, .lst (rowD [3, 3, 5, 7]), .lst (rowD [2, 4, 4, 6])] ∧ ∀ (p : Int) (hp : PC p) (f : Pol p) (n : Nat) (s : Int), CDF p f n s → R (.tup [.int p, rD f])) :=
  fn_ok (N := ["_law_dice_here", "_law_primes", "_law_degrees", "_law_prime", "_law_root", "_law_row", "_law_entry"]) (ps := ["_law_dice_here", "_law_primes", "_law_degrees"]) (d__law_even_curve T) (sc_of (by decide +kernel)) (fun _ _ _ _ _ _ us hl => match us, hl with | [_, _, _], _ => rfl) (fun _ _ ⟨e, _⟩ => e ▸ rfl) fun X cg hf ds R ⟨ed, hR⟩ => by
    subst ed
    have bf := T.bf
    refine r_set 3 (R := fun d => ∃ p : Int, d = .int p ∧ Pr p) cg (v_fn cg (p_law_pick T) (d__law_pick T) (g__law_pick T) (a_d (v_var 0) (a_d (v_var 1) a_nil)) ⟨[3, 3, 5, 7], rfl, by decide, by decide, fun x hx => ⟨x, rfl, ?_⟩⟩) fun d ⟨p, ed, hp⟩ => ?_
    · simp only [List.mem_cons, List.not_mem_nil, or_false] at hx
      rcases hx with rfl | rfl | rfl | rfl
      · exact .inl rfl
      · exact .inl rfl
      · exact .inr (.inl rfl)
      · exact .inr (.inr rfl)
    · subst ed
      haveI : PC p := ⟨hp⟩
      have h0 := hp.pos
      have h3 := hp.ge
      have h7 := hp.le
      refine r_set 4 (R := Ib 1 p) cg (v_addN (Rb := Ib 0 (p - 1)) v_int (y_roll T cg (v_var 0) (v_sub (v_var 3) v_int) (by omega) (by omega)) fun x y hx ⟨i, ey, i0, i1⟩ => ⟨1, i, hx, ey, 1 + i, rfl, by omega, by omega⟩) fun d ⟨r, ed, r0, r1⟩ => ?_
      subst ed
      have rne := sm_ne (p := p) (x := r) (by omega) r1
      have rr := res_mul_ne hp rne rne
      refine r_set 5 (R := fun d => ∃ (n : Nat) (a : Pol p), (n = 1 ∨ n = 2 ∨ n = 3) ∧ d = rD (mon1 a) ∧ a.len = n + n + 1 ∧ free0 p a.r) cg (v_call cg (p_law_monic T) (by decide) (g__law_monic T) (kp_of (d__law_monic T)) (Rs := fun ds => ∃ (n : Nat) (a : Pol p), (n = 1 ∨ n = 2 ∨ n = 3) ∧ ds = [.int p, rD a] ∧ a.len = n + n + 1 ∧ free0 p a.r)
        ((a_cons (R := is_ (.int p)) (v_var 3) (a_cons (R := fun d => ∃ (n : Nat) (a : Pol p), (n = 1 ∨ n = 2 ∨ n = 3) ∧ d = rD a ∧ a.len = n + n + 1 ∧ free0 p a.r) (v_call cg (p_law_free_drawn T) (by decide) (g__law_free_drawn T) (kp_of (d__law_free_drawn T)) (Rs := fun ds => ∃ n : Nat, (n = 1 ∨ n = 2 ∨ n = 3) ∧ ds = [.dice, .int p, .int ((n + n : Nat) : Int)])
          ((a_cons (R := is_ .dice) (v_var 0) (a_cons (R := is_ (.int p)) (v_var 3) (a_cons (R := fun d => ∃ n : Nat, (n = 1 ∨ n = 2 ∨ n = 3) ∧ d = .int ((n + n : Nat) : Int)) (v_fn cg (p_law_pick T) (d__law_pick T) (g__law_pick T) (a_d (v_var 0) (a_d (v_var 2) a_nil)) ⟨[2, 4, 4, 6], rfl, by decide, by decide, fun x hx => ?_⟩) a_nil))).mono fun ds ⟨d1, ds1, e1, e2, d2, ds2, e3, e4, d3, ds3, e5, ⟨n, hn, e6⟩, e7⟩ => ⟨n, hn, by rw [e1, e2, e3, e4, e5, e6, e7]⟩)
          fun ds ⟨n, hn, e⟩ => ⟨p, this, n + n, e, by omega, fun a la fa => ⟨n, a, hn, rfl, la, fa⟩⟩) a_nil)).mono fun ds ⟨d1, ds1, e1, e2, d2, ds2, e3, ⟨n, a, hn, e4, la, fa⟩, e5⟩ => ⟨n, a, hn, by rw [e1, e2, e3, e4, e5], la, fa⟩)
        fun ds ⟨n, a, hn, e, la, fa⟩ => ⟨p, this, a, e, by omega, fun z => by rw [z, zero_len] at la; omega, n, a, hn, rfl, la, fa⟩) fun d ⟨n, a, hn, ed, la, fa⟩ => ?_
      · simp only [List.mem_cons, List.not_mem_nil, or_false] at hx
        rcases hx with rfl | rfl | rfl | rfl
        · exact ⟨1, .inl rfl, rfl⟩
        · exact ⟨2, .inr (.inl rfl), rfl⟩
        · exact ⟨2, .inr (.inl rfl), rfl⟩
        · exact ⟨3, .inr (.inr rfl), rfl⟩
      · subst ed
        obtain ⟨s, hs⟩ := cd_of (r := r) hn la fa (by omega) r1
        have ml : (mon1 a).r.length ≤ 10 := by
          have a0 : a ≠ 0 := fun z => by rw [z, zero_len] at la; omega
          have l := ld_pos a0
          have h1 : (mon1 a).len = a.len := Pol.scl_len (inv_mod (p := p) l.1 l.2).2 a
          have h2 : (mon1 a).r.length = (mon1 a).len := rfl
          omega
        refine r_retD (d := .tup [.int p, rD (Pol.C p (r * r) * mon1 a)]) (v_tupD (a_d (v_var 3) (a_d ((v_tuple .l ((v_lc cg (lc_map (xs := (mon1 a).r) (gd := Dt.int) (f := fun e => .int (e * r * r % p)) [("_law_entry", 6)] cg (by omega) (it_tup (v_var 5)) fun XB cb q hq =>
          ⟨tg_name 6 cb, v_mod h0 (v_int1 (v_mul (.inr (small64 (by omega) (by omega))) (v_mul (.inr (small64 (by omega) (by omega))) (v_var 6) (v_var 4)) (v_var 4))) (v_var 3)⟩)).is (by rw [lst_map]))).is (by rw [fx_map rr])) a_nil))) (hR p this _ n s hs)
theorem CDF.fp {p : Int} [PC p] {f : Pol p} {n : Nat} {s : Int} (h : CDF p f n s) : freeP p f.r = true := by
  unfold freeP
  have : (monZ p (gcdP p f.r (dervP p f.r))).length = 1 := h.fr
  rw [this]
  rfl
theorem p_law_sheet_of (T : Tx K mg) : FnA P w K mg base 17 (He.ga K "_law_sheet_of") (fun ds R => ∃ (p : Int) (_ : PC p) (f : Pol p) (n : Nat) (s : Int), ds = [.int p, rD f] ∧ CDF p f n s ∧ R (.curve p f.r)) :=
  fn_ok (N := ["_law_prime", "_law_row"]) (ps := ["_law_prime", "_law_row"]) (d__law_sheet_of T) (sc_of (by decide +kernel)) (fun _ _ _ _ _ _ us hl => match us, hl with | [_, _], _ => rfl) (fun _ _ ⟨_, _, _, _, _, e, _⟩ => e ▸ rfl) fun X cg hf ds R ⟨p, hp, f, n, s, ed, h, hR⟩ => by
    subst ed
    have bf := T.bf
    have hl := h.cd.hl
    have hn := h.cd.hn
    have hr : f.r.length = f.len := rfl
    exact r_retD (x_Curve T cg (wfA f) h.cd.two (by omega) (by omega) h.fp (x_new T cg (v_var 0) (v_var 1) (by omega))) hR
theorem p_law_norm_of (T : Tx K mg) : FnA P w K mg base 4 (He.ga K "_law_norm_of") (fun ds R => ∃ (p : Int) (_ : PC p) (f u v : Pol p), ds = [.int p, rD f, rD u, rD v] ∧ f.len ≤ 9 ∧ u.len ≤ 400 ∧ v.len ≤ 400 ∧ R (rD (u * u - f * (v * v)))) :=
  fn_ok (N := ["_law_prime", "_law_f", "_law_u", "_law_v"]) (ps := ["_law_prime", "_law_f", "_law_u", "_law_v"]) (d__law_norm_of T) (sc_of (by decide +kernel)) (fun _ _ _ _ _ _ us hl => match us, hl with | [_, _, _, _], _ => rfl) (fun _ _ ⟨_, _, _, _, _, e, _⟩ => e ▸ rfl) fun X cg hf ds R ⟨p, hp, f, u, v, ed, lf, lu, lv, hR⟩ => by
    subst ed
    have bf := T.bf
    have m1 := Pol.mul_le u u
    have m2 := Pol.mul_le v v
    have m3 := Pol.mul_le f (v * v)
    exact r_retD (y_less T cg (v_var 0) (y_times T cg (v_var 0) (v_var 2) (v_var 2) (by omega) (by omega)) (y_times T cg (v_var 0) (v_var 1) (y_times T cg (v_var 0) (v_var 3) (v_var 3) (by omega) (by omega)) (by omega) (by omega)) (by omega) (by omega)) hR
theorem p_law_scaled (T : Tx K mg) : FnA P w K mg base 2 (He.ga K "_law_scaled") (fun ds R => ∃ (p : Int) (_ : PC p) (a : Pol p) (c : Int), ds = [.int p, rD a, .int c] ∧ a.len ≤ 900 ∧ 0 ≤ c ∧ c < p ∧ R (rD (Pol.C p c * a))) :=
  fn_ok (N := ["_law_prime", "_law_row", "_law_residue", "_law_entry"]) (ps := ["_law_prime", "_law_row", "_law_residue"]) (d__law_scaled T) (sc_of (by decide +kernel)) (fun _ _ _ _ _ _ us hl => match us, hl with | [_, _, _], _ => rfl) (fun _ _ ⟨_, _, _, _, e, _⟩ => e ▸ rfl) fun X cg hf ds R ⟨p, hp, a, c, ed, la, c0, c1, hR⟩ => by
    subst ed
    have bf := T.bf
    have h0 := hp.pos
    have h7 := hp.pr.le
    have la' : a.r.length ≤ 900 := la
    refine r_ret ((x_trim (r := a.r.map fun e => e * c % p) T cg ((v_lc cg (lc_map (xs := a.r) (gd := Dt.int) (f := fun e => .int (e * c % p)) [("_law_entry", 3)] cg (by omega) (it_tup (v_var 1)) fun XB cb q hq =>
      ⟨tg_name 3 cb, v_mod h0 (v_int1 (v_mul (.inr (small64 (by omega) (by omega))) (v_var 3) (v_var 2))) (v_var 0)⟩)).is (by rw [lst_map])) (by rw [List.length_map]; omega)).mono fun d ed => ?_)
    cases ed
    rw [scl_row]
    exact hR
abbrev prD {p : Int} (q : Pol p × Pol p) : Dt := .tup [rD q.1, rD q.2]
theorem p_law_product_pair (T : Tx K mg) : FnA P w K mg base 3 (He.ga K "_law_product_pair") (fun ds R => ∃ (p : Int) (_ : PC p) (f : Pol p) (a b : Pol p × Pol p), ds = [.int p, rD f, prD a, prD b] ∧ f.len ≤ 9 ∧ a.1.len ≤ 400 ∧ a.2.len ≤ 400 ∧ b.1.len ≤ 400 ∧ b.2.len ≤ 400 ∧ R (prD (prP f a b))) :=
  fn_ok (N := ["_law_prime", "_law_row", "_law_one", "_law_other", "_law_above"]) (ps := ["_law_prime", "_law_row", "_law_one", "_law_other"]) (d__law_product_pair T) (sc_of (by decide +kernel)) (fun _ _ _ _ _ _ us hl => match us, hl with | [_, _, _, _], _ => rfl) (fun _ _ ⟨_, _, _, _, _, e, _⟩ => e ▸ rfl) fun X cg hf ds R ⟨p, hp, f, a, b, ed, lf, l1, l2, l3, l4, hR⟩ => by
    subst ed
    have bf := T.bf
    have m1 := Pol.mul_le a.1 b.1
    have m2 := Pol.mul_le a.2 b.2
    have m3 := Pol.mul_le f (a.2 * b.2)
    have m4 := Pol.mul_le a.1 b.2
    have m5 := Pol.mul_le a.2 b.1
    refine r_setD (d := rD (a.1 * b.1 + f * (a.2 * b.2))) 4 cg (y_plus T cg (v_var 0) (y_times T cg (v_var 0) (v_item .t (v_var 2) v_int rfl) (v_item .t (v_var 3) v_int rfl) (by omega) (by omega)) (y_times T cg (v_var 0) (v_var 1) (y_times T cg (v_var 0) (v_item .t (v_var 2) v_int rfl) (v_item .t (v_var 3) v_int rfl) (by omega) (by omega)) (by omega) (by omega)) (by omega) (by omega)) ?_
    replace hR : R (.tup [rD (a.1 * b.1 + f * (a.2 * b.2)), rD (a.1 * b.2 + a.2 * b.1)]) := hR
    exact r_retD (v_tupD (a_d (v_var 4) (a_d (y_plus T cg (v_var 0) (y_times T cg (v_var 0) (v_item .t (v_var 2) v_int rfl) (v_item .t (v_var 3) v_int rfl) (by omega) (by omega)) (y_times T cg (v_var 0) (v_item .t (v_var 2) v_int rfl) (v_item .t (v_var 3) v_int rfl) (by omega) (by omega)) (by omega) (by omega)) a_nil))) hR
theorem p_law_plain (T : Tx K mg) : FnA P w K mg base 13 (He.ga K "_law_plain") (fun ds R => ∃ (p : Int) (_ : PC p) (f : Pol p) (a : Pol p × Pol p), ds = [.curve p f.r, .int p, prD a] ∧ f.len ≤ 9 ∧ a.1.len ≤ 1000 ∧ a.2.len ≤ 1000 ∧ R (.fn p f.r a.1.r a.2.r (1 : Pol p).r)) :=
  fn_ok (N := ["_law_curve", "_law_prime", "_law_pair"]) (ps := ["_law_curve", "_law_prime", "_law_pair"]) (d__law_plain T) (sc_of (by decide +kernel)) (fun _ _ _ _ _ _ us hl => match us, hl with | [_, _, _], _ => rfl) (fun _ _ ⟨_, _, _, _, e, _⟩ => e ▸ rfl) fun X cg hf ds R ⟨p, hp, f, a, ed, lf, la, lb, hR⟩ => by
    subst ed
    have bf := T.bf
    exact r_retD (x_Function1 T cg (v_var 0) (x_new T cg (v_var 1) (v_item .t (v_var 2) v_int rfl) la) (x_new T cg (v_var 1) (v_item .t (v_var 2) v_int rfl) lb) (x_one T cg (v_var 1)) lf la lb) hR
end
end DL

namespace DL
open PySem PySem.Spec PyProof.Rows L2
section
variable {X : Cx} {δ : List Sl} {es tgs : List Expr} {is : List Nat} {ss : List Sl} {pos tp ep : Pos} {kt k2 : Nat} {D : DEnds} {rest : List Stmt}
variable {P : Program} {w : World} {K : PySem.W.Frag} {mg : Str → Option Value} {base : Heap} {k : Nat} {N : List Str} {sc : Scope}
/-- x, y, .. = e1, e2, ..: more than three names, or not all of them plain -/
theorem r_parN (cg : Cg P w K mg base k N sc X) (h : EvS X δ es ss) (ht : TgP X tgs is) (kk : RunS X (setS δ is ss) rest D) (hl : is.length = ss.length := by rfl) (hz : ss.length ≤ 1000 := by decide) (hbb : (is.all fun i => decide (i < δ.length)) = true := by rfl) (hn : (assignEach tgs X.env).length = is.length := by rfl) (hst : (assignEach tgs X.env).findIdx? (·.1) = none := by rfl)
    (hs : swapsWithSole [.Tuple tgs kt tp] (.Tuple es k2 ep) pos.line X.env = pure false := by rfl) (hw : swappedStores [.Tuple tgs kt tp] (.Tuple es k2 ep) X.env = pure none := by rfl) (h1 : (assignEach [.Tuple tgs kt tp] X.env).map (·.2) = [assign (.Tuple tgs kt tp) X.env] := by rfl) : RunS X δ (.Assign [.Tuple tgs kt tp] (.Tuple es k2 ep) pos :: rest) D :=
  r_of (ps_asg (pe_tup pa_tea) (pg_tup cg.calm ht hn hst) hs hw h1) fun M0 M H0 σ H g => tea_mono (h M0 M H0 σ H [] [] g.len (by rw [List.append_nil, List.append_nil]; exact g)) fun xs H1 ⟨M', g2⟩ => by
    rw [List.nil_append, List.nil_append] at g2
    have hlen := g2.len
    rw [List.length_append, List.length_append, List.length_map] at hlen
    have hx : xs.length = ss.length := by have := g.len; omega
    refine ⟨by rw [hx]; exact Nat.le_trans hz (by decide), fun p hp => ⟨p, xs, rfl, .inl (.inl upd_same), by omega, gNames_run (by omega) ?_⟩⟩
    exact kk M0 M' H0 _ _ (Sg.moves is ss xs (g2.grow (Ex.new hp)) g.len hl fun i hi => of_decide_eq_true (List.all_eq_true.mp hbb i hi))
end
theorem range_cons (n : Nat) : rangeD 0 1 (n + 1) = 0 :: rangeD 1 1 n := by
  unfold rangeD
  rw [List.range_succ_eq_map, List.map_cons, List.map_map]
  congr 1
  apply List.map_congr_left
  intro i _
  show (0 : Int) + ((i + 1 : Nat) : Int) * 1 = 1 + (i : Int) * 1
  omega
theorem first_root {p c s : Int} (hp : 0 < p) (h : (rootsOf p c)[0]? = some s) (hc : c ≠ 0) : ((rangeD 1 1 (p - 1).toNat).filter fun x => decide (x * x % p = c))[0]? = some s := by
  unfold rootsOf at h
  rw [← range_of, show p.toNat = (p - 1).toNat + 1 by omega, range_cons, List.filter_cons_of_neg (by
    intro z
    have := of_decide_eq_true z
    rw [Int.mul_zero, Int.zero_emod] at this
    exact hc this.symm)] at h
  exact h
section
variable {P : Program} {w : World} {K : PySem.W.Frag} {mg : Str → Option Value} {base : Heap}
theorem p_law_root_row (T : Tx K mg) : FnA P w K mg base 2 (He.ga K "_law_root_row") (fun ds R => ∃ (p : Int) (_ : PC p) (f : Pol p) (n : Nat) (s : Int) (h : CD p f n s), ds = [.int p, rD f] ∧ R (rD (rootS f n s h.hs))) :=
  fn_ok (N := ["_law_prime", "_law_f", "_law_size", "_law_lead", "_law_one", "_law_found", "_law_place", "_law_known", "_law_at"]) (ps := ["_law_prime", "_law_f"]) (d__law_root_row T) (sc_of (by decide +kernel)) (fun _ _ _ _ _ _ us hl => match us, hl with | [_, _], _ => rfl) (fun _ _ ⟨_, _, _, _, _, _, e, _⟩ => e ▸ rfl) fun X cg hf ds R ⟨p, hp, f, n, s, h, ed, hR⟩ => by
    subst ed
    have bf := T.bf
    have h0 := hp.pos
    have h7 := hp.pr.le
    have hl : f.r.length = n + n + 1 := h.hl
    have n3 : 1 ≤ n ∧ n ≤ 3 := by have := h.hn; omega
    have hs := h.hs
    have s0 := sm_ne hs.1 hs.2
    have t0 := res_mul_ne hp.pr (two_ne hp.pr) s0
    have t1 := mod_res h0 (2 * s)
    have hv := inv_ok hp.pr (n := 2 * s % p) (by omega) t1.2
    have f0 : f ≠ 0 := fun z => by have := h.hl; rw [z, zero_len] at this; omega
    have fl := ld_pos f0
    have hfirst := first_root h0 h.root (by omega)
    refine r_setD (d := .int (n : Int)) 2 cg ((v_fdiv (by decide) (v_sub (v_len .t (v_var 1)) v_int) v_int).is (by rw [row_len, hl]; congr 1; omega)) ?_
    refine r_setD (d := .int s) 3 cg (v_item .l (v_lc cg (lc_filter (xs := rangeD 1 1 (p - 1).toNat) (gd := Dt.int) (f := Dt.int) (p := fun o => decide (o * o % p = f.ld)) [("_law_one", 4)] cg (by rw [rangeD_l]; omega) (it_range2 v_int (v_var 0) ⟨(range62n (by decide) (by decide)).1, (range62n (by decide) (by decide)).2, range62 (by omega) (by omega)⟩)
      fun XB cb a ha => ⟨tg_name 4 cb, t_eqI (v_mod h0 (v_int1 (v_mul (.inl (small64 (by have := (mem_range1 ha).1; omega) (by have := (mem_range1 ha).2; omega))) (v_var 4) (v_var 4))) (v_var 0)) (v_item .t (v_var 1) (v_neg v_int) (atI_rowL (Pol.nn f0))), fun _ => v_var 4⟩)) v_int ?_) ?_
    · have hl0 := (List.getElem?_eq_some_iff.mp hfirst).1
      rw [show (0 : Int) = ((0 : Nat) : Int) from rfl, show List.map Dt.int (List.filter (fun o => decide (o * o % p = f.ld)) (rangeD 1 1 (p - 1).toNat)) = rowD (List.filter (fun o => decide (o * o % p = f.ld)) (rangeD 1 1 (p - 1).toNat)) from rfl, atI_nat hl0]
      unfold getI
      rw [hfirst]
      rfl
    refine r_setM (ds := rowD (List.replicate n 0 ++ [s])) 5 cg ?_ ?_
    · have e1 : (List.replicate (n : Int).toNat [Dt.int 0]).flatten ++ [Dt.int s] = rowD (List.replicate n 0 ++ [s]) := by
        rw [rep0s n (n : Int) (by simp), ← row_app]; rfl
      rw [← e1]
      refine l_cat (by rw [rep0s n (n : Int) (by simp)]; simp; omega) (v_L (l_rep (by omega) (by omega) (by decide) (v_L (l_lst (a_d v_int a_nil))) (v_var 2))) (v_L (l_lst (a_d (v_var 3) a_nil)))
    let st : List Int → List Sl := fun F => [.im (.int p), .im (rD f), .im (.int (n : Int)), .im (.int s), .no, .mu (rowD F), .no, .no, .no]
    have el : (rangeD ((n : Int) - 1) (-1) (((n : Int) - 1) - (-1)).toNat).map Dt.int = (rangeD ((n : Int) - 1) (-1) n).map Dt.int := by
      rw [show ((n : Int) - 1 - (-1)).toNat = n by omega]
    refine r_forF (xs := rangeD ((n : Int) - 1) (-1) n) (g := Dt.int) cg ((it_range3 (v_sub (v_var 2) v_int) (v_neg v_int) (v_neg v_int) ⟨(range62n (by omega) (by omega)).1, (range62n (by omega) (by omega)).2, (range62n (by decide) (by decide)).1, (range62n (by decide) (by decide)).2⟩).is el) st (rootStep p f.r n (invI p (2 * s % p))) (List.replicate n 0 ++ [s]) (.eq (.eq (.eq (.eq (.no (.eq (.no (.no (.no .nil))))))))) (fun m i hi => ⟨tg_name 6 cg, ?_⟩) ?_
    · obtain ⟨hm, ei⟩ := range_at hi
      generalize hF : ((rangeD ((n : Int) - 1) (-1) n).take m).foldl (rootStep p f.r n (invI p (2 * s % p))) (List.replicate n 0 ++ [s]) = F
      have lF : F.length = n + 1 := by rw [← hF, rootStep_len]; simp
      have rF : Res p F := by
        rw [← hF]
        refine rootStep_res h0 _ _ _ _ _ fun x hx => ?_
        rcases List.mem_append.mp hx with q | q
        · rw [List.eq_of_mem_replicate q]; omega
        · rw [List.mem_singleton.mp q]; omega
      have i0 : 0 ≤ i := by omega
      refine r_setD (d := .int (knownL F n i).sum) 7 cg (v_sum cg ((v_lc cg (lc_map (xs := rangeD (i + 1) 1 ((n : Int) - (i + 1)).toNat) (gd := Dt.int) (f := fun a => .int (getI F a.toNat * getI F ((n : Int) + i - a).toNat)) [("_law_at", 8)] cg (by rw [rangeD_l]; omega) (it_range2 (v_add (v_var 6) v_int) (v_var 2) ⟨(range62n (by omega) (by omega)).1, (range62n (by omega) (by omega)).2, (range62n (by omega) (by omega)).1, (range62n (by omega) (by omega)).2⟩) fun XB cb a ha =>
        ⟨tg_name 8 cb, v_mul (.inl (knownL_res (n := 0) (a := 0) h0 h7 rF _ 0)) (v_itemM 5 (v_var 8) rfl (atI_is (m := a.toNat) (by have := mem_range1 ha; omega) (by have := mem_range1 ha; omega))) (v_itemM 5 (v_sub (v_add (v_var 2) (v_var 6)) (v_var 8)) rfl (atI_is (m := ((n : Int) + i - a).toNat) (by have := mem_range1 ha; omega) (by have := mem_range1 ha; omega)))⟩)).is (by rw [lst_map]; rfl))) ?_
      refine r_put 5 (R := is_ (.int ((getI f.r ((n : Int) + i).toNat - (knownL F n i).sum) * invI p (2 * s % p) % p))) (v_mod h0 (v_int1 (v_mul (i := getI f.r ((n : Int) + i).toNat - (knownL F n i).sum) (j := invI p (2 * s % p)) (.inr (small64 (by omega) (by omega))) (v_sub (v_item .t (v_var 1) (v_add (v_var 2) (v_var 6)) (atI_is (m := ((n : Int) + i).toNat) (by omega) (by omega))) (v_var 7)) (v_fn cg (p_law_inverse T) (d__law_inverse T) (g__law_inverse T) (a_d (v_var 0) (a_d (v_mod h0 (v_int1 (v_mul (.inl (by decide)) v_int (v_var 3))) (v_var 0)) a_nil)) ⟨p, _, rfl, hp.pr, by omega, t1.2, rfl⟩))) (v_var 0)) (v_var 6) rfl (ixN_nat (m := i.toNat) (by omega) (by rw [row_len]; omega)) fun d hd => r_nil ?_
      cases hd
      rw [row_set]
      exact .eq (.eq (.eq (.eq (.eq (.eq (.no (.no (.no .nil))))))))
    · exact r_retD (v_tupM 5 rfl) hR
theorem p_law_own_power (T : Tx K mg) : FnA P w K mg base 5 (He.ga K "_law_own_power") (fun ds R => ∃ (p : Int) (_ : PC p) (f u v : Pol p) (n L : Nat) (s N t : Int), ds = [.int p, rD f, prD (u, v), .int t] ∧ f.len ≤ 9 ∧ f.Top (n + n) (s * s) ∧ Un f n s L 1 1 u v N ∧ 0 < N ∧ N < p ∧ u.len ≤ 100 ∧ v.len ≤ 100 ∧ t.natAbs * L ≤ 200 ∧ t.natAbs ≤ 60 ∧ R (prD (mdP f (u, v) N t))) :=
  fn_ok (N := ["_law_prime", "_law_row", "_law_pair", "_law_times_here", "_law_norm", "_law_back", "_law_found", "_law_turn"]) (ps := ["_law_prime", "_law_row", "_law_pair", "_law_times_here"]) (d__law_own_power T) (sc_of (by decide +kernel)) (fun _ _ _ _ _ _ us hl => match us, hl with | [_, _, _, _], _ => rfl) (fun _ _ ⟨_, _, _, _, _, _, _, _, _, _, e, _⟩ => e ▸ rfl) fun X cg hf ds R ⟨p, hp, f, u, v, n, L, s, N, t, ed, lf, hft, h, N0, N1, lu, lv, hL, ht, hR⟩ => by
    subst ed
    have bf := T.bf
    have h0 := hp.pos
    have hNr : (u * u - f * (v * v)).r = [N] := by
      rw [h.nm]
      show trimI [N % p] = [N]
      rw [Int.emod_eq_of_lt (by omega) N1]
      exact trim_snoc (r := []) (by omega)
    refine r_setD (d := rD (u * u - f * (v * v))) 4 cg (v_fn cg (p_law_norm_of T) (d__law_norm_of T) (g__law_norm_of T) (a_d (v_var 0) (a_d (v_var 1) (a_d (v_item .t (v_var 2) v_int rfl) (a_d (v_item .t (v_var 2) v_int rfl) a_nil)))) ⟨p, hp, f, u, v, rfl, lf, by omega, by omega, rfl⟩) ?_
    have rest : ∀ (u' v' : Pol p) (x y M : Int) (z : Sl), Un f n s L x y u' v' M → y * y = 1 → u'.len ≤ 100 → v'.len ≤ 100 → mdP f (u, v) N t = pwP f (u', v') t.natAbs → RunS X [.im (.int p), .im (rD f), .im (prD (u', v')), .im (.int t), .im (rD (u * u - f * (v * v))), z, .no, .no] ((BD 127).drop 2) { rt := R, nx := fun _ => R .non } := fun u' v' x y M z hu hy lu' lv' he => by
      have lens : ∀ i, i ≤ t.natAbs → (pwP f (u', v') i).1.len ≤ 400 ∧ (pwP f (u', v') i).2.len ≤ 400 := fun i hi => by
        have h1 := pw_lens hft hu hy i
        have h2 : i * L ≤ t.natAbs * L := Nat.mul_le_mul_right _ hi
        omega
      refine r_setD (d := prD (pwP f (u', v') 0)) 6 cg ((v_tupD (a_d (v_tupD (a_d v_int a_nil)) (a_d (v_tupD a_nil) a_nil))).is ?_) ?_
      · show _ = Dt.tup [rD (1 : Pol p), rD (0 : Pol p)]
        unfold rD
        rw [one_r, (Pol.nil_iff (0 : Pol p)).mpr rfl]
        rfl
      · refine r_forF (xs := rangeD 0 1 t.natAbs) (g := Dt.int) cg ((it_range1 (v_absN (v_var 3)) (range62 (by omega) (by omega))).is (by rw [Int.toNat_natCast])) (fun i => [.im (.int p), .im (rD f), .im (prD (u', v')), .im (.int t), .im (rD (u * u - f * (v * v))), z, .im (prD (pwP f (u', v') i)), .no]) (fun k _ => k + 1) 0 (.eq (.eq (.eq (.eq (.eq (.eq (.eq (.no .nil)))))))) (fun m i hi => ⟨tg_name 7 cg, ?_⟩) ?_
        · have hm := (List.getElem?_eq_some_iff.mp hi).1
          rw [rangeD_len] at hm
          rw [cnt, List.length_take, rangeD_len, Nat.zero_add, Nat.min_eq_left (Nat.le_of_lt hm)]
          have hl := lens m (by omega)
          refine r_setD (d := prD (pwP f (u', v') (m + 1))) 6 cg (v_fn cg (p_law_product_pair T) (d__law_product_pair T) (g__law_product_pair T) (a_d (v_var 0) (a_d (v_var 1) (a_d (v_var 6) (a_d (v_var 2) a_nil)))) ⟨p, hp, f, pwP f (u', v') m, (u', v'), rfl, lf, hl.1, hl.2, Nat.le_trans lu' (by decide), Nat.le_trans lv' (by decide), rfl⟩) (r_nil ?_)
          exact .eq (.eq (.eq (.eq (.eq (.eq (.eq (.no .nil)))))))
        · rw [cnt, rangeD_len, Nat.zero_add]
          rw [he] at hR
          exact r_retD (v_var 6) hR
    by_cases hneg : t < 0
    · refine r_if (k := true) ((t_lt (v_var 3) v_int).is (decide_eq_true hneg)) (fun _ => ?_) fun hh => nomatch hh
      have ni := inv_ok hp.pr N0 N1
      have n1 : (-v).len ≤ 100 := Pol.neg_len _ lv
      have n0 : invI p N % p ≠ 0 := sm_ne ni.2.2.1 ni.2.2.2
      refine r_setD (d := .int (invI p N)) 5 cg (v_fn cg (p_law_inverse T) (d__law_inverse T) (g__law_inverse T) (a_d (v_var 0) (a_d (v_item .t (v_var 4) v_int (d := .int N) (by rw [hNr]; exact atI_is (m := 0) rfl (by simp))) a_nil)) ⟨p, N, rfl, hp.pr, N0, N1, rfl⟩) ?_
      refine r_setD (d := prD (ngP (u, v) N)) 2 cg (v_tupD (a_d (v_fn cg (p_law_scaled T) (d__law_scaled T) (g__law_scaled T) (a_d (v_var 0) (a_d (v_item .t (v_var 2) v_int rfl) (a_d (v_var 5) a_nil))) ⟨p, hp, u, invI p N, rfl, by omega, by omega, ni.2.2.2, rfl⟩) (a_d (v_fn cg (p_law_scaled T) (d__law_scaled T) (g__law_scaled T) (a_d (v_var 0) (a_d (y_turned T cg (v_var 0) (v_item .t (v_var 2) v_int rfl) (by omega)) (a_d (v_var 5) a_nil))) ⟨p, hp, -v, invI p N, rfl, by omega, by omega, ni.2.2.2, rfl⟩) a_nil))) (r_nil ?_)
      refine rest _ _ _ _ _ _ (ng_un h ⟨N0, N1⟩) rfl (Nat.le_trans (Nat.le_of_eq (Pol.scl_len n0 _)) lu) (Nat.le_trans (Nat.le_of_eq (Pol.scl_len n0 _)) n1) ?_
      unfold mdP
      rw [if_pos hneg]
      rfl
    · refine r_if (k := false) ((t_lt (v_var 3) v_int).is (decide_eq_false hneg)) (fun hh => nomatch hh) fun _ => r_nil ?_
      refine rest u v 1 1 N _ h rfl lu lv ?_
      unfold mdP
      rw [if_neg hneg]
end
end DL

namespace DL
open PySem PySem.Spec PyProof.Rows L2
section
variable {P : Program} {w : World} {K : PySem.W.Frag} {mg : Str → Option Value} {base : Heap}
theorem zero_r {p : Int} [PC p] : (0 : Pol p).r = [] := (Pol.nil_iff (0 : Pol p)).mpr rfl
theorem p_law_round_rows (T : Tx K mg) : FnA P w K mg base 4 (He.ga K "_law_round_rows") (fun ds R => ∃ (p : Int) (_ : PC p) (f : Pol p) (n : Nat) (s : Int) (h : CD p f n s), ds = [.int p, rD f, .int 60] ∧ R .non ∧ ∀ m l, CR p f (rootS f n s h.hs) n s m → R (.lst l)) :=
  fn_ok (N := ["_law_prime", "_law_f", "_law_most", "_law_top", "_law_p", "_law_q", "_law_found", "_law_length", "_law_turn", "_law_a"]) (ps := ["_law_prime", "_law_f", "_law_most"]) (d__law_round_rows T) (sc_of (by decide +kernel)) (fun _ _ _ _ _ _ us hl => match us, hl with | [_, _, _], _ => rfl) (fun _ _ ⟨_, _, _, _, _, _, e, _⟩ => e ▸ rfl) fun X cg hf ds R ⟨p, hp, f, n, s, h, ed, hN, hR⟩ => by
    subst ed
    have bf := T.bf
    have h0 := hp.pos
    generalize hS : rootS f n s h.hs = S at *
    have F : Fd f S n s := hS ▸ h.fd
    have chb : ∀ i, ChB f S i := fun i => hS ▸ ch_b h i
    refine r_parN (is := [3, 4, 5, 6, 7]) cg (s_im (d := rD S) (v_fn cg (p_law_root_row T) (d__law_root_row T) (g__law_root_row T) (a_d (v_var 0) (a_d (v_var 1) a_nil)) ⟨p, hp, f, n, s, h, rfl, by rw [hS]⟩) (s_im (d := rD (sP f S 0)) ((v_tupD a_nil).is ?_) (s_im (d := rD (sQ f S 0)) ((v_tupD (a_d v_int a_nil)).is ?_) (s_mu (l_lst a_nil) (s_im v_int s_nil))))) (tp_cons 3 cg (tp_cons 4 cg (tp_cons 5 cg (tp_cons 6 cg (tp_cons 7 cg tp_nil))))) ?_ (hl := rfl) (hz := by simp)
    · show Dt.tup [] = rD (0 : Pol p)
      unfold rD
      rw [zero_r]
      rfl
    · show Dt.tup [.int 1] = rD (1 : Pol p)
      unfold rD
      rw [one_r]
      rfl
    refine r_for cg (it_range1 (v_add (v_var 2) v_int) (range62 (by decide) (by decide))) (fun k δ' => ∃ (ds : List Dt) (z8 z9 : Sl), δ' = [.im (.int p), .im (rD f), .im (.int 60), .im (rD S), .im (rD (sP f S k)), .im (rD (sQ f S k)), .mu ds, .im (.int (ln f S k : Nat)), z8, z9] ∧ ds.length = k ∧ (∀ i, 1 ≤ i → i < k → (sQ f S i).len ≠ 1) ∧ ln f S k ≤ 60) ⟨[], _, _, rfl, rfl, fun i h1 h2 => absurd h2 (Nat.not_lt_zero _), Nat.zero_le _⟩ (fun k d δ' hd hI => ?_) fun δ' hδ => ?_
    · obtain ⟨ds, z8, z9, e, hl, hq, hln⟩ := hI
      subst e
      have hk : d = .int (k : Nat) := by
        have hk := (List.getElem?_eq_some_iff.mp hd).1
        rw [row_len, rangeD_len] at hk
        rw [List.getElem?_map, rangeD_get hk] at hd
        cases hd
        rw [show (0 : Int) + (k : Int) * 1 = (k : Nat) by omega]
      subst hk
      have hkl := ln_ge F k
      have cb := chb k
      have hal := sA_len F k
      refine ⟨[8], _, tg_name 8 cg, ?_⟩
      refine r_setD (d := rD (sA f S k)) 9 cg (v_item .t (y_div T cg (v_var 0) (y_plus T cg (v_var 0) (v_var 4) (v_var 3) (by have := cb.pl; omega) (by have := cb.sl; omega)) (v_var 5) (Nat.le_trans (Pol.add_len _ _ (n := 10) cb.pl cb.sl) (by decide)) (by have := cb.ql; omega) cb.q0) v_int rfl) ?_
      refine r_append 6 (R := fun _ => True) ((v_tupD (a_d (v_var 9) (a_d (v_var 4) (a_d (v_var 5) a_nil)))).mono fun _ _ => trivial) rfl (by omega) fun d _ => ?_
      refine r_if (k := decide ((0 : Int) < (k : Nat)) && decide (((sQ f S k).r.length : Int) = 1)) (t_w (w_and (t_gt (v_var 8) v_int) fun _ => w_and1 ((t_eqI (v_len .t (v_var 5)) v_int).is (by rw [row_len])))) (fun hh => ?_) fun hh => r_nil ?_
      · rw [Bool.and_eq_true] at hh
        have h1 := of_decide_eq_true hh.1
        have h2 := of_decide_eq_true hh.2
        refine r_freeze 6 rfl (r_retD (v_var 6) (hR k _ ⟨h, hS.symm, ⟨by omega, ?_, hq, hln⟩⟩))
        show (sQ f S k).r.length = 1
        omega
      · have elen : ((ln f S k : Nat) : Int) + ((sA f S k).r.length : Int) - 1 = ((ln f S (k + 1) : Nat) : Int) := by
          have h3 : ln f S (k + 1) = ln f S k + ((sA f S k).len - 1) := rfl
          have h4 : (sA f S k).r.length = (sA f S k).len := rfl
          omega
        refine r_setD (d := .int (ln f S (k + 1) : Nat)) 7 cg ((v_sub (v_add (v_var 7) (v_len .t (v_var 9))) v_int).is (by rw [row_len, elen])) ?_
        by_cases hm : ln f S (k + 1) ≤ 60
        · refine r_if (k := false) ((t_gt (v_var 7) (v_var 2)).is (decide_eq_false (by omega))) (fun hh => nomatch hh) fun _ => r_nil ?_
          have p1 := cb.p1
          have m1 := Pol.mul_le (sA f S k) (sQ f S k)
          have m2 := Pol.mul_le (sP f S (k + 1)) (sP f S (k + 1))
          have c1 := cb.al
          have c2 := cb.ql
          have c3 := cb.pl
          have c4 := cb.fl
          refine r_setD (d := rD (sP f S (k + 1))) 4 cg (y_less (a := sA f S k * sQ f S k) (b := sP f S k) T cg (v_var 0) (y_times (a := sA f S k) (b := sQ f S k) T cg (v_var 0) (v_var 9) (v_var 5) (by omega) (by omega)) (v_var 4) (by omega) (by omega)) ?_
          refine r_setD (d := rD (sQ f S (k + 1))) 5 cg (v_item .t (y_div (a := f - sP f S (k + 1) * sP f S (k + 1)) (b := sQ f S k) T cg (v_var 0) (y_less (a := f) (b := sP f S (k + 1) * sP f S (k + 1)) T cg (v_var 0) (v_var 1) (y_times (a := sP f S (k + 1)) (b := sP f S (k + 1)) T cg (v_var 0) (v_var 4) (v_var 4) (by omega) (by omega)) (by omega) (by omega)) (v_var 5) (Nat.le_trans (Pol.sub_len _ _ (n := 100) (by omega) (by omega)) (by decide)) (by omega) cb.q0) v_int rfl) (r_nil ?_)
          refine ⟨ds ++ [d], _, _, rfl, by rw [List.length_append, hl]; rfl, fun i h1 h2 => ?_, hm⟩
          by_cases hik : i < k
          · exact hq i h1 hik
          · have ei : i = k := by omega
            rw [ei] at h1 ⊢
            rw [decide_eq_true (show (0 : Int) < (k : Nat) by omega), Bool.true_and] at hh
            have := of_decide_eq_false hh
            intro z
            exact this (by show ((sQ f S k).len : Int) = 1; omega)
        · refine r_if (k := true) ((t_gt (v_var 7) (v_var 2)).is (decide_eq_true (by omega))) (fun _ => r_retD v_non hN) fun hh => nomatch hh
    · obtain ⟨ds, z8, z9, e, hl, hq, hln⟩ := hδ
      subst e
      exact r_retD v_non hN
end
end DL

namespace DL
open PySem PySem.Spec PyProof.Rows L2
section
variable {X : Cx} {δ : List Sl} {a b e : Expr} {pos p1 : Pos} {Ra Rb R : Dt → Prop} {ds : List Dt}
theorem v_catN (ha : EvD X δ a (.lst ds)) (hb : EvE X δ b Rb) (h : ∀ y, Rb y → ∃ es, y = .lst es ∧ ds.length + es.length ≤ 100000 ∧ R (.lst (ds ++ es))) : EvE X δ (.BinOp a .Add b pos) R := fun M0 M H0 σ H g =>
  tev_of (pe_op op_cat pe_tev pe_tev) (ev2 ha hb g fun x y dx dy H2 e r1 r2 q1 q2 g2 => by
    cases r1
    obtain ⟨es', e2, hl, hR⟩ := h dy r2
    subst e2
    obtain ⟨a, xs, rfl, h1, h2⟩ := rep_lst.mp q1
    obtain ⟨b, ys, rfl, h3, h4⟩ := rep_lst.mp q2
    exact ⟨a, b, xs, ys, rfl, rfl, hid_ex _ _ h1, hid_ex _ _ h3, by rw [← reps_len h2, ← reps_len h4]; exact Nat.le_trans hl (by decide), fun p hp => ⟨e.trans (Ex.new hp), _, hR, rep_newL g2.dom hp (reps_app h2 h4)⟩⟩)
end
section
variable {P : Program} {w : World} {K : PySem.W.Frag} {mg : Str → Option Value} {base : Heap}
section
variable {X : Cx} {δ : List Sl} {e1 e2 e3 e4 : Expr} {pos p1 : Pos} {k : Nat} {N : List Str} {sc : Scope} {p : Int} [hp : PC p] {f a b c : Pol p} {Q : Pol p → Prop}
theorem x_newN (T : Tx K mg) (cg : Cg P w K mg base k N sc X) (ha : EvD X δ e1 (.int p)) (hb : EvE X δ e2 fun d => ∃ u : Pol p, Q u ∧ d = .tup (rowD u.r)) (hl : ∀ u, Q u → u.len ≤ 1000) (hn : 6 ≤ k := by decide) (hg : Gl X "Poly" := by first | rfl | exact Cg.gl (by assumption) rfl)
    (he : starEach [e1, e2] X.env = (false, eval e1 X.env) :: starEach [e2] X.env := by rfl) (he2 : starEach [e2] X.env = (false, eval e2 X.env) :: starEach [] X.env := by rfl) (hpl : (backTo pos (starEach [e2] X.env)).any (·.1) = false := by rfl) : EvE X δ (.Call (.Name "Poly" p1) [e1, e2] [] pos) (fun d => ∃ u : Pol p, Q u ∧ d = .poly p u.r) :=
  v_new cg (mk_Poly T) (p_Poly_init T) hn (g_Poly T) (a_cons ha (a_cons hb a_nil he2) he) (fun ds ⟨d1, r1, e1, h1, d2, r2, e2, ⟨u, hu, h2⟩, h3⟩ => by
    subst e1 h1 e2 h2 h3
    exact ⟨fun fs => fs = fP p u.r, ⟨p, u.r, .inr ⟨rfl, hl u hu⟩, wfA u, rfl⟩, fun fs ef => ⟨⟨.tup (rowD u.r), by rw [show fs = fP p u.r from ef]; rfl⟩, _, ⟨u, hu, rfl⟩, by
      have hw := wfA u
      have hl' : u.r.length ≤ 1000 := hl u hu
      rw [show fs = fP p u.r from ef]
      exact seal_poly hw (textR_len (hw.ress.up (by have := hw.prr.le; omega)) (by omega))⟩⟩) hg (by decide) he hpl
theorem x_Function1N (T : Tx K mg) (cg : Cg P w K mg base k N sc X) (h1 : EvD X δ e1 (.curve p f.r)) (h2 : EvE X δ e2 fun d => ∃ u : Pol p, Q u ∧ d = .poly p u.r) (h3 : EvD X δ e3 (.poly p b.r)) (h4 : EvD X δ e4 (.poly p (1 : Pol p).r)) (lf : f.len ≤ 9) (la : ∀ u, Q u → u.len ≤ 1000) (lb : b.len ≤ 1000) (hn : 12 ≤ k := by decide) (hg : Gl X "Function" := by first | rfl | exact Cg.gl (by assumption) rfl)
    (q1 : starEach [e1, e2, e3, e4] X.env = (false, eval e1 X.env) :: starEach [e2, e3, e4] X.env := by rfl) (q2 : starEach [e2, e3, e4] X.env = (false, eval e2 X.env) :: starEach [e3, e4] X.env := by rfl) (q3 : starEach [e3, e4] X.env = (false, eval e3 X.env) :: starEach [e4] X.env := by rfl) (q4 : starEach [e4] X.env = (false, eval e4 X.env) :: starEach [] X.env := by rfl) (hpl : (backTo pos (starEach [e2, e3, e4] X.env)).any (·.1) = false := by rfl) :
    EvE X δ (.Call (.Name "Function" p1) [e1, e2, e3, e4] [] pos) (fun d => ∃ u : Pol p, Q u ∧ d = .fn p f.r u.r b.r (1 : Pol p).r) :=
  v_new cg (mk_Function T) (p_Function_init T) hn (g_Function T) (a_cons h1 (a_cons h2 (a_cons h3 (a_cons h4 a_nil q4) q3) q2) q1) (fun ds ⟨d1, r1, e1, h1, d2, r2, e2, ⟨u, hu, h2⟩, d3, r3, e3, h3, d4, r4, e4, h4, h5⟩ => by
    subst e1 h1 e2 h2 e3 h3 e4 h4 h5
    refine ⟨fun fs => ∃ d4 d5 d6 d7 d8, fs = fF p f.r (ltP u b 1).1.r (ltP u b 1).2.1.r (ltP u b 1).2.2.r d4 d5 d6 d7 d8, ⟨p, hp, f, u, b, 1, rfl, lf, la u hu, lb, by rw [one_len]; decide, one_ne, fun d4 d5 d6 d7 d8 => ⟨d4, d5, d6, d7, d8, rfl⟩⟩, fun fs ⟨d4, d5, d6, d7, d8, ef⟩ => ⟨⟨.poly p (ltP u b 1).1.r, by rw [ef]; rfl⟩, _, ⟨u, hu, rfl⟩, ?_⟩⟩
    rw [ef, lt_one]
    exact seal_fn) hg (by decide) q1 hpl
/-- the polynomial x -/
def xP (p : Int) [hp : PC p] : Pol p := ⟨[0, 1], ⟨fun x hx => by
  have := hp.pr.ge
  simp only [List.mem_cons, List.not_mem_nil, or_false] at hx
  omega, by decide⟩⟩
theorem xP_ne : xP p ≠ 0 := fun z => by
  have : (xP p).r = [] := (Pol.nil_iff _).mpr z
  cases this
end
/-- values near a unit -/
def UV4 {p : Int} [PC p] (f : Pol p) (v : Dt) (q : Bool) : Prop := (∃ a b c : Pol p, v = .fn p f.r a.r b.r c.r ∧ a.len ≤ 400 ∧ b.len ≤ 400 ∧ c.len ≤ 400 ∧ q = (decide ((c.len : Int) - 1 = 0) && decide (((a * a - f * (b * b)).len : Int) - 1 = 0))) ∨ ((v = .non ∨ (∃ l, v = .tup l) ∨ ∃ r : Pol p, v = .poly p r.r) ∧ q = false)
theorem UV4.uv {p : Int} [PC p] {f : Pol p} {v : Dt} {q : Bool} (h : UV4 f v q) : UV f v q := h.imp_left fun ⟨a, b, c, e, h1, h2, h3, h4⟩ => ⟨a, b, c, e, by omega, by omega, by omega, h4⟩
theorem uvF {p : Int} [PC p] {f a b c : Pol p} (h1 : a.len ≤ 400) (h2 : b.len ≤ 400) (h3 : c.len ≤ 400) : ∃ q, UV4 f (.fn p f.r a.r b.r c.r) q := ⟨_, .inl ⟨a, b, c, rfl, h1, h2, h3, rfl⟩⟩
theorem p_law_is_own (T : Tx K mg) : FnA P w K mg base 5 (He.ga K "_law_is_own") (fun ds R => ∃ (p : Int) (_ : PC p) (f : Pol p) (v : Dt) (q : Bool), ds = [.int p, rD f, v] ∧ f.len ≤ 9 ∧ UV4 f v q ∧ R (.bl q)) :=
  fn_ok (N := ["_law_prime", "_law_row", "_law_value"]) (ps := ["_law_prime", "_law_row", "_law_value"]) (d__law_is_own T) (sc_of (by decide +kernel)) (fun _ _ _ _ _ _ us hl => match us, hl with | [_, _, _], _ => rfl) (fun _ _ ⟨_, _, _, _, _, e, _⟩ => e ▸ rfl) fun X cg hf ds R ⟨p, hp, f, v, q, ed, lf, hv, hR⟩ => by
    subst ed
    have bf := T.bf
    rcases hv with ⟨a, b, c, ev, la, lb, lc, eq⟩ | ⟨ev, eq⟩
    · subst ev eq
      by_cases hc : (c.r.length : Int) - 1 = 0
      · refine r_if (k := false) ((t_w (w_or (k := false) (m := false) ((t_not (t_val (v_io cg (sc_Function T) (si_Function T) (ki_Function_Function T) (g_Function T) i_fn (v_var 2)))).is rfl) fun _ => w_or1 ((t_neI (x_degR T cg (x_fc T cg (v_var 2))) v_int).is (by rw [decide_eq_true hc]; rfl)))).is rfl) (fun h => nomatch h) fun _ => r_nil ?_
        refine r_retD ((v_eqI (v_len .t (v_fn cg (p_law_norm_of T) (d__law_norm_of T) (g__law_norm_of T) (a_d (v_var 0) (a_d (v_var 1) (a_d (x_rowR T cg (x_fa T cg (v_var 2))) (a_d (x_rowR T cg (x_fb T cg (v_var 2))) a_nil)))) ⟨p, hp, f, a, b, rfl, lf, la, lb, rfl⟩)) v_int).is ?_) hR
        rw [row_len, decide_eq_true (show ((c.len : Int) - 1 = 0) from hc), Bool.true_and]
        congr 1
        exact decide_eq_decide.mpr ⟨fun h => by show ((a * a - f * (b * b)).r.length : Int) - 1 = 0; omega, fun h => by have : ((a * a - f * (b * b)).r.length : Int) - 1 = 0 := h; omega⟩
      · rw [decide_eq_false (show ¬((c.len : Int) - 1 = 0) from hc), Bool.false_and] at hR
        refine r_if (k := true) ((t_w (w_or (k := false) (m := true) ((t_not (t_val (v_io cg (sc_Function T) (si_Function T) (ki_Function_Function T) (g_Function T) i_fn (v_var 2)))).is rfl) fun _ => w_or1 ((t_neI (x_degR T cg (x_fc T cg (v_var 2))) v_int).is (by rw [decide_eq_false hc]; rfl)))).is rfl) (fun _ => r_retD v_bl hR) fun h => nomatch h
    · subst eq
      rcases ev with e | ⟨l, e⟩ | ⟨r, e⟩
      · subst e
        exact r_if (k := true) ((t_w (w_or (k := true) (m := true) ((t_not (t_val (v_ito cg (kt_NoneType_Function T) (g_Function T) (v_var 2)))).is rfl) fun h => nomatch h)).is rfl) (fun _ => r_retD v_bl hR) fun h => nomatch h
      · subst e
        exact r_if (k := true) ((t_w (w_or (k := true) (m := true) ((t_not (t_val (v_ito cg (kt_tuple_Function T) (g_Function T) (v_var 2)))).is rfl) fun h => nomatch h)).is rfl) (fun _ => r_retD v_bl hR) fun h => nomatch h
      · subst e
        exact r_if (k := true) ((t_w (w_or (k := true) (m := true) ((t_not (t_val (v_io cg (sc_Poly T) (si_Poly T) (ki_Poly_Function T) (g_Function T) i_poly (v_var 2)))).is rfl) fun h => nomatch h)).is rfl) (fun _ => r_retD v_bl hR) fun h => nomatch h
end
end DL

namespace DL
open PySem PySem.Spec PyProof.Rows L2
section
variable {P : Program} {w : World} {K : PySem.W.Frag} {mg : Str → Option Value} {base : Heap}
theorem p_law_near (T : Tx K mg) : FnA P w K mg base 20 (He.ga K "_law_near") (fun ds R => ∃ (p : Int) (_ : PC p) (f a b : Pol p), ds = [.dice, .curve p f.r, .int p, rD f, prD (a, b)] ∧ f.len ≤ 9 ∧ a.len ≤ 200 ∧ b.len ≤ 200 ∧ ∀ l : List Dt, (∀ v ∈ l, ∃ q, UV4 f v q) → l.length ≤ 100 → R (.lst l)) :=
  fn_ok (N := ["_law_dice_here", "_law_curve", "_law_prime", "_law_row", "_law_pair", "_law_one", "_law_x", "_law_unit", "_law_found"]) (ps := ["_law_dice_here", "_law_curve", "_law_prime", "_law_row", "_law_pair"]) (d__law_near T) (sc_of (by decide +kernel)) (fun _ _ _ _ _ _ us hl => match us, hl with | [_, _, _, _, _], _ => rfl) (fun _ _ ⟨_, _, _, _, _, e, _⟩ => e ▸ rfl) fun X cg hf ds R ⟨p, hp, f, a, b, ed, lf, la, lb, hR⟩ => by
    subst ed
    have bf := T.bf
    have h0 := hp.pos
    have h3 := hp.pr.ge
    have h7 := hp.pr.le
    have l1 : (1 : Pol p).len = 1 := one_len
    have l0 : (0 : Pol p).len = 0 := zero_len
    have lx : (xP p).len = 2 := rfl
    refine r_par2 5 6 cg (s_im (x_one T cg (v_var 2)) (s_im (x_new (u := xP p) T cg (v_var 2) ((v_tupD (a_d v_int (a_d v_int a_nil))).is rfl) (by omega)) s_nil)) ?_
    refine r_setD (d := .fn p f.r a.r b.r (1 : Pol p).r) 7 cg (v_fn cg (p_law_plain T) (d__law_plain T) (g__law_plain T) (a_d (v_var 1) (a_d (v_var 2) (a_d (v_var 4) a_nil))) ⟨p, hp, f, (a, b), rfl, lf, by show a.len ≤ 1000; omega, by show b.len ≤ 1000; omega, rfl⟩) ?_
    have m1 := Pol.mul_le a 1
    have m2 := Pol.mul_le b 1
    have m3 := Pol.mul_le (1 : Pol p) 1
    have m4 := Pol.mul_le (0 : Pol p) 1
    have n1 := Pol.add_len (a * 1) (1 * 1) (n := 300) (by omega) (by omega)
    have n2 := Pol.add_len (b * 1) (0 * 1) (n := 300) (by omega) (by omega)
    have c1 : (1 : Pol p) * 1 ≠ 0 := Pol.mul_ne one_ne one_ne
    have g1 := lt_len (a * 1 + 1 * 1) (b * 1 + 0 * 1) ((1 : Pol p) * 1) c1
    have g2 := lt_len a b (xP p) xP_ne
    have ba := Pol.add_len b 1 (n := 300) (by omega) (by omega)
    refine r_setM (ds := [.fn p f.r a.r b.r (1 : Pol p).r, .fn p f.r (fadd a b 1 1 0 1).1.r (fadd a b 1 1 0 1).2.1.r (fadd a b 1 1 0 1).2.2.r, .fn p f.r (ltP a b (xP p)).1.r (ltP a b (xP p)).2.1.r (ltP a b (xP p)).2.2.r, .poly p a.r, .non, .tup [], prD (a, b)]) 8 cg (l_lst (a_d (v_var 7) (a_d (v_bo cg (sf_Function T) (mm_Function___add__ T) (p_Function_add T) i_fn i_fn (v_var 7) (x_Function1 (a := 1) (b := 0) T cg (v_var 1) (v_var 5) (x_nil T cg (v_var 2)) (v_var 5) lf (by omega) (by omega)) ⟨p, hp, f, a, b, 1, 1, 0, 1, rfl, lf, by omega, by omega, by omega, by omega, by omega, by omega, one_ne, one_ne, rfl⟩) (a_d (x_Function T cg (v_var 1) (x_fa T cg (v_var 7)) (x_fb T cg (v_var 7)) (v_var 6) lf (by omega) (by omega) (by omega) xP_ne) (a_d (x_fa T cg (v_var 7)) (a_d v_non (a_d (v_tupD a_nil) (a_d (v_var 4) a_nil)))))))) ?_
    refine r_append 8 (R := is_ (.fn p f.r a.r (b + 1).r (1 : Pol p).r)) (x_Function1 T cg (v_var 1) (x_fa T cg (v_var 7)) (x_add T cg (x_fb T cg (v_var 7)) (v_var 5) (by omega) (by omega)) (v_var 5) lf (by omega) (by omega)) rfl (by simp) fun d e1 => ?_
    cases e1
    refine r_append 8 (R := is_ (.fn p f.r (xP p).r (0 : Pol p).r (1 : Pol p).r)) (x_Function1 (a := xP p) T cg (v_var 1) (v_var 6) (x_nil T cg (v_var 2)) (v_var 5) lf (by omega) (by omega)) rfl (by simp) fun d e1 => ?_
    cases e1
    refine r_append 8 (R := is_ (.fn p f.r (0 : Pol p).r (0 : Pol p).r (1 : Pol p).r)) (x_Function1 T cg (v_var 1) (x_nil T cg (v_var 2)) (x_nil T cg (v_var 2)) (v_var 5) lf (by omega) (by omega)) rfl (by simp) fun d e1 => ?_
    cases e1
    refine r_append 8 (R := is_ (.fn p f.r (0 : Pol p).r (1 : Pol p).r (1 : Pol p).r)) (x_Function1 (b := 1) T cg (v_var 1) (x_nil T cg (v_var 2)) (v_var 5) (v_var 5) lf (by omega) (by omega)) rfl (by simp) fun d e1 => ?_
    cases e1
    refine r_freeze 8 rfl (r_ret ?_)
    refine v_catN (v_var 8) (v_lst (R := fun d => ∃ u : Pol p, u.len = 1 ∧ d = .lst [.fn p f.r u.r (0 : Pol p).r (1 : Pol p).r]) (Rs := fun ds => ∃ u : Pol p, u.len = 1 ∧ ds = [.fn p f.r u.r (0 : Pol p).r (1 : Pol p).r]) ((a_cons (x_Function1N (Q := fun u => u.len = 1) T cg (v_var 1) (x_newN (Q := fun u => u.len = 1) T cg (v_var 2) (v_tup (R := fun d => ∃ u : Pol p, u.len = 1 ∧ d = .tup (rowD u.r)) (Rs := fun ds => ∃ i : Int, ds = [.int i] ∧ 1 ≤ i ∧ i < p) ((a_cons (v_addN (Rb := Ib 0 (p - 1)) (R := Ib 1 p) v_int (y_roll T cg (v_var 0) (v_sub (v_var 2) v_int) (by omega) (by omega)) fun x y hx ⟨i, ey, i0, i1⟩ => ⟨1, i, hx, ey, 1 + i, rfl, by omega, by omega⟩) a_nil).mono fun ds ⟨d, r, e, ⟨i, ei, i0, i1⟩, er⟩ => ⟨i, by rw [e, ei, er], i0, i1⟩) (fun ds ⟨i, e, _⟩ => by rw [e]; simp) fun ds ⟨i, e, i0, i1⟩ => ⟨⟨[i], ⟨fun x hx => ?_, ?_⟩⟩, rfl, by rw [e]; rfl⟩) (fun u h => by omega)) (x_nil T cg (v_var 2)) (v_var 5) lf (fun u h => by omega) (by omega)) a_nil).mono fun ds ⟨d, r, e, ⟨u, hu, e1⟩, er⟩ => ⟨u, hu, by rw [e, e1, er]⟩) (fun ds ⟨u, _, e⟩ => by rw [e]; simp) fun ds ⟨u, hu, e⟩ => ⟨u, hu, by rw [e]⟩) fun y ⟨u, hu, ey⟩ => ⟨_, ey, by simp, hR _ (fun v hv => ?_) (by simp)⟩
    · rw [List.mem_singleton.mp hx]; omega
    · show i ≠ 0
      omega
    · simp only [List.mem_append, List.mem_cons, List.not_mem_nil, or_false] at hv
      rcases hv with ((((( h | h | h | h | h | h | h) | h) | h) | h) | h) | h
      · subst h; exact uvF (by omega) (by omega) (by omega)
      · subst h; exact uvF (Nat.le_trans g1.1 (by omega)) (Nat.le_trans g1.2.1 (by omega)) (Nat.le_trans g1.2.2.1 (by omega))
      · subst h; exact uvF (Nat.le_trans g2.1 (by omega)) (Nat.le_trans g2.2.1 (by omega)) (Nat.le_trans g2.2.2.1 (by omega))
      · exact ⟨false, .inr ⟨.inr (.inr ⟨a, h⟩), rfl⟩⟩
      · exact ⟨false, .inr ⟨.inl h, rfl⟩⟩
      · exact ⟨false, .inr ⟨.inr (.inl ⟨_, h⟩), rfl⟩⟩
      · exact ⟨false, .inr ⟨.inr (.inl ⟨_, h⟩), rfl⟩⟩
      · subst h; exact uvF (by omega) (by omega) (by omega)
      · subst h; exact uvF (by omega) (by omega) (by omega)
      · subst h; exact uvF (by omega) (by omega) (by omega)
      · subst h; exact uvF (by omega) (by omega) (by omega)
      · subst h; exact uvF (by omega) (by omega) (by omega)
end
end DL

namespace DL
open PySem PySem.Spec PyProof.Rows L2
/-! ### defs that are called where no repr is under way -/
def FnG (P : Program) (w : World) (K : PySem.W.Frag) (mg : Str → Option Value) (base : Heap) (k : Nat) (f : Addr) (S : Sd) : Prop :=
  ∀ (A : Around) (outer : List Env) (s : Shared) (H : Hp) (us : List Value) (vs : List V) (Q : VK) (E : XK), A.guards = some [] → Room k A → Env0 P w K mg base A outer s H → Vals vs us → spD K S vs H Q E → codeAny (model P w) A (.call (.ref f) ⟨us, []⟩) (L2.CR CX0 outer P w H s Q E) s
section
variable {P : Program} {w : World} {K : PySem.W.Frag} {mg : Str → Option Value} {base : Heap} {k n : Nat} {N ps : List Str} {scope : Scope} {x qual : Str} {params : Arguments} {body : List Stmt} {f : Addr} {S : Sd}
theorem fnG_ok (F : ∃ fd, FunD K x qual params body scope [] [] f fd) (Sc : FnScope N ps scope) (bind : BindP x qual params body scope ps) (len : ∀ ds R, S ds R → ds.length = ps.length)
    (hb : ∀ X, Cg P w K mg base n N scope X → (∀ x, X.fn x = true) → X.A.guards = some [] → ∀ ds R, S ds R → RunS X (startS N (ds.map .im)) body { rt := R, nx := fun _ => R .non }) : FnG P w K mg base (n + 1) f S := by
  obtain ⟨fd, F⟩ := F
  obtain ⟨oc, od, dV, kV, doc, pm, an, cdv, ct, osl, efd, lk, hcd, hD, hK⟩ := F.ex
  have ed : dV = .none := by
    rcases hD with ⟨_, e⟩ | ⟨e, _⟩
    · exact e
    · exact absurd rfl e
  subst efd ed
  intro A outer s H us vs Q E hgd hroom env0 rvals ⟨M, ds, R, dom, rr, hs, hq⟩
  have hvl : vs.length = ps.length := by
    rw [← reps_len rr]
    exact len ds R hs
  have hul : us.length = ps.length := by rw [← rvals.length]; exact hvl
  have kin : K.In s.heap := env0.mod.kin.keeps fun b o e => (env0.bs b o e).1
  have nolim : s.heap.NoLimit := env0.mod.nolimit.keeps fun b o e => (env0.bs b o e).1
  have kinds : ∀ y ∈ ps.zip us, scope.names.lookup y.1 = some .local ∨ (scope.names.lookup y.1 = some .cell ∧ ((cellsFrom (s.heap.objs.size + 1) scope.names []).lookup y.1).isSome = true) := fun ⟨a, v⟩ hy => by
    rcases Sc.par a (List.of_mem_zip hy).1 with q | q
    · exact .inl q
    · exact .inr ⟨q, PySem.W.cellsFrom_some _ _ _ (.inl q)⟩
  have binds := Binds.all (K := K) (bind kV doc pm an cdv ct) s us kin (by rw [List.append_nil]; exact hul)
  rw [List.append_nil] at binds
  refine codeAny_call_function hroom.depth (kin _ _ lk) rfl Sc.co Sc.gen rfl (PySem.W.codeRec_of kin hcd) (binds _ _ _ _ ?_)
  refine wpAny_newFunctionEnv_cells Sc.kind kinds fun env he s1 x => ?_
  subst he
  refine ⟨nolim.keeps x.toInCall.keep, codeAny_func ?_⟩
  have cg : Cg P w K mg base n N scope (cxOf CX0 P w K mg base N qual scope f cdv A outer s H E).nox := ⟨rfl, rfl, rfl, rfl, rfl, rfl, rfl, Sc.nd, hroom.deeper _, rfl, rfl⟩
  have pst : PSs (cxOf CX0 P w K mg base N qual scope f cdv A outer s H E) body _ := PSs.nox (t := tes (cxOf CX0 P w K mg base N qual scope f cdv A outer s H E).nox body) pss_tes
  have run := tes_mono (hb _ cg (fun _ => rfl) hgd ds R hs M M H (start N vs) H (sg_start dom rr)) (D' := { nx := fun _ H' => Q .non H', rt := Q }) (fun σ' H' ⟨M', δ, q, g⟩ => hq .non .non H' q g.ext (rep_non.mpr rfl)) (fun v H' ⟨d, rd, e, rv⟩ => hq d v H' rd e rv) (fun _ _ ⟨_, _, z, _⟩ => z.elim) fun _ _ ⟨_, _, z, _⟩ => z.elim
  have I : Inv (cxOf CX0 P w K mg base N qual scope f cdv A outer s H E) [] (start N vs) H s1 := inv_start Sc hroom.hd env0 hvl rvals x
  refine wpAny_mono (pst.run [] s1 (start N vs) H _ I run) (fun fl s' hs' => ?_) fun e s' hs' => hs'
  cases fl with
  | ret u =>
    obtain ⟨v, σ', H', J, rv, q⟩ := hs'
    exact ⟨v, H', J.os, J.bare, J.base, J.hok, rv, q⟩
  | next =>
    obtain ⟨σ', H', J, q⟩ := hs'
    exact ⟨V.non, H', J.os, J.bare, J.base, J.hok, rfl, q⟩
  | brk =>
    obtain ⟨_, _, _, q⟩ := hs'
    exact q.elim
  | cont =>
    obtain ⟨_, _, _, q⟩ := hs'
    exact q.elim
end
section
variable {X : Cx} {δ : List Sl} {a b c e o : Expr} {es : List Expr} {pos p : Pos} {R : Dt → Prop} {Rs : List Dt → Prop} {i j : Int} {x : Str}
variable {P : Program} {w : World} {K : PySem.W.Frag} {mg : Str → Option Value} {base : Heap} {k n : Nat} {N : List Str} {sc : Scope} {f : Addr} {S : Sd}
theorem v_callG (cg : Cg P w K mg base k N sc X) (hgd : X.A.guards = some []) (F : FnG P w K mg base n f S) (hn : n ≤ k) (hm : mg x = some (.ref f)) (hk : PySem.W.keepIn K (.ref f) = true) (ha : EvA X δ (e :: es) Rs) (h : ∀ ds, Rs ds → S ds R) (hg : Gl X x := by first | rfl | exact Cg.gl (by assumption) rfl)
    (hd : (x == ("__debug__" : Str)) = false := by decide) (he : starEach (e :: es) X.env = (false, eval e X.env) :: starEach es X.env := by rfl) (hpl : (backTo pos (starEach es X.env)).any (·.1) = false := by rfl) : EvE X δ (.Call (.Name x p) (e :: es) [] pos) R := fun M0 M H0 σ H G => by
  obtain ⟨rfl, rfl, rfl, rfl, rfl, rfl, rfl, nd, room, calm, nox⟩ := cg
  refine tev_of (t := fun σ H Q => tea X (e :: es) σ H fun vs H1 => spD X.K S vs H1 Q E0) ⟨fun pins s σ H Q I h => wpAny_Call_Name_kw (ld_glob I hg hm (PySem.W.callWith_K (h₀ := X.base) I.ok.mod.kin hk (thn (pa_tea.run pos pins s σ H _ I h) fun us s1 ⟨vs, H1, I1, r, q⟩ => ⟨I1.kIn, wpAny_call ?_⟩) he hpl) hd)⟩ (tea_mono (ha M0 M H0 σ H G) fun vs H1 ⟨e1, ds, rs, q⟩ => ⟨M, ds, R, (G.grow e1).dom, q, h ds rs, fun d v H2 rd e2 r => ⟨e1.trans e2, d, rd, r⟩⟩)
  refine codeAny_mono (F X.A X.stack s1 H1 us vs Q E0 hgd (room.mono hn) I1.env0 r q) fun r s' hq => ?_
  cases r with
  | error e => exact pass0 pins σ H1 s1 e s' I1 hq
  | ok fl =>
    cases fl with
    | ret u => exact I1.after hq
    | next => exact hq.elim
    | brk => exact hq.elim
    | cont => exact hq.elim
end
end DL

namespace DL
open PySem PySem.Spec PyProof.Rows L2
section
variable {X : Cx} {δ δ' : List Sl} {a b c e o tg : Expr} {es : List Expr} {pos p : Pos} {R : Dt → Prop} {ds : List Dt} {d : Dt} {D : DEnds} {rest body : List Stmt} {is : List Nat} {Rl : List Dt → Prop} {Rs : List Sl → Prop}
variable {P : Program} {w : World} {K : PySem.W.Frag} {mg : Str → Option Value} {base : Heap} {k : Nat} {N : List Str} {sc : Scope}
theorem r_asgTN (he : EvE X δ e R) (ht : ∀ d, R d → ∃ is δ', TgD X tg is δ d δ' ∧ RunS X δ' rest D) (hs : swapsWithSole [tg] e pos.line X.env = pure false := by rfl) (hw : swappedStores [tg] e X.env = pure none := by rfl) (h1 : (assignEach [tg] X.env).map (·.2) = [assign tg X.env] := by rfl) : RunS X δ (.Assign [tg] e pos :: rest) D :=
  r_of (ps_asg pe_tev pg_tpg hs hw h1) fun M0 M H0 σ H g => tev_mono (he M0 M H0 σ H g) fun v H1 ⟨e1, d, rd, q⟩ => by
    obtain ⟨is, δ', t, kk⟩ := ht d rd
    exact tpg_mono (t M0 M H0 σ H1 v (g.grow e1) q) fun σ2 H2 ⟨vs, es, eh, g2⟩ => kk M0 M H0 σ2 H2 (by rw [eh] at g2 ⊢; exact g2)
theorem sx_nil : EvSx X δ [] (fun ss => ss = []) := fun M0 M H0 σ H δx σx hl g => tea_of pa_nil ⟨M, [], rfl, by rw [List.append_nil, List.map_nil, List.append_nil]; exact g⟩
theorem sx_im (h : EvE X δ e R) (h2 : EvSx X δ es Rs) (hs : starEach (e :: es) X.env = (false, eval e X.env) :: starEach es X.env := by rfl) : EvSx X δ (e :: es) (fun ss => ∃ d r, ss = .im d :: r ∧ R d ∧ Rs r) := fun M0 M H0 σ H δx σx hl g =>
  tea_of (pa_cons pe_tev pa_tea hs) (tev_mono (h M0 M H0 σ H (g.cut hl)) fun v H1 ⟨e1, d, rd, q⟩ => by
    have g2 := (g.grow e1).push_im q
    rw [List.append_assoc, List.append_assoc] at g2
    refine tea_mono (h2 M0 M H0 σ H1 _ _ hl g2) fun xs H2 ⟨M', ss, rs, g3⟩ => ⟨M', .im d :: ss, ⟨d, ss, rfl, rd, rs⟩, ?_⟩
    rw [List.append_assoc, List.append_assoc] at g3
    exact g3)
/-- for, over one of some lists -/
theorem r_forN (cg : Cg P w K mg base k N sc X) {tg : Expr} (hi : EvE X δ e fun d => ∃ ds, d = .lst ds ∧ Rl ds) (Iv : List Sl → Prop) (h0 : Iv δ)
    (hs : ∀ ds d δ', Rl ds → d ∈ ds → Iv δ' → ∃ is δ2, TgD X tg is δ' d δ2 ∧ RunS X δ2 body { D with nx := Iv, ct := Iv, bk := fun δ3 => RunS X δ3 rest D }) (hd : ∀ δ', Iv δ' → RunS X δ' rest D)
    (hf : ∀ x, foldedSetIterable e X.env x = pure x := by intro _; rfl) : RunS X δ (.For tg e body [] pos :: rest) D :=
  r_of (ps_for (never cg) cg.calm pi_tpi pg_tpg pss_tes hf) fun M0 M H0 σ H g => by
    have it : tpi X tg e σ H fun J H1 => Ex H H1 ∧ ∃ ds, Rl ds ∧ Walk J ds.length (fun H' => Ex (hid M H1) H') (YD X.K (hid M H1) ds) := tpi_of (pi_list pe_tev) (tev_mono (hi M0 M H0 σ H g) fun v H1 ⟨e1, d, ⟨ds, ed, hR⟩, q⟩ => by
      subst ed
      obtain ⟨a, xs, rfl, h2, h3⟩ := rep_lst.mp q
      refine ⟨a, rfl, ⟨xs, SqL.of (hid_ex _ _ h2)⟩, e1, ds, hR, ?_⟩
      rw [reps_len h3]
      refine walk_list.mono (fun H' e => SqL.of (e _ _ h2)) fun i H2 x H3 hi eg ⟨eh, hx⟩ => ?_
      subst eh
      obtain ⟨d, hd, r⟩ := reps_got h3 hx
      exact ⟨Ex.rfl, d, hd, fun M' _ e2 => rep_mono e2 r⟩)
    refine tpi_mono it fun J H1 ⟨e1, ds, hR, wk⟩ => ?_
    obtain ⟨H0', b1, b2, g'⟩ := (g.grow e1).rebase
    refine for_it wk (fun i σ' H' => ∃ M' δ', Iv δ' ∧ Sg X.K M0 M' H0' δ' σ' H') ⟨M, δ, h0, g'⟩ (fun i σ' H' _ ⟨M', δ', _, g2⟩ => b2.trans g2.ext) ?_ fun σ' H' ⟨M', δ', iv, g2⟩ => hd δ' iv M0 M' H0 σ' H' (g2.unbase b1)
    rintro i x σ' H' H2 hi' ⟨M', δ', iv, g2⟩ ⟨e2, d, hd', y⟩
    obtain ⟨is, δ2, ht, hb⟩ := hs ds d δ' hR (List.mem_of_getElem? hd') iv
    have g3 := g2.grow e2
    refine tpg_mono (ht M0 M' H0' σ' H2 x g3 (y M' g2.dom (g2.seen b2 g.sub))) fun σ3 H3 ⟨vs, es, eh, g4⟩ => ?_
    exact tes_mono (hb M0 M' H0' σ3 H3 g4) (fun _ _ ⟨M2, δ3, q, g5⟩ => ⟨M2, δ3, q, g5⟩) (fun _ _ ⟨d, q, e, r⟩ => ⟨d, q, b1.trans e, r⟩) (fun σ2 H2 ⟨M2, δ2, q, g2⟩ => q M0 M2 H0 σ2 H2 (g2.unbase b1)) fun _ _ ⟨M2, δ3, q, g5⟩ => ⟨M2, δ3, q, g5⟩
/-! ### repr -/
abbrev shw (i j : Int) : Str := (PyData.tuple [.int i, .int j]).shown
theorem call_repr_pair (hgd : X.A.guards = some []) (hu : X.A.units + 100 < cLine) : CallR X (.builtin "repr") (fun xs H Q => ∃ a i j, xs = [.ref a] ∧ SqT X.K H a [.int i, .int j] ∧ (i.natAbs.log2 < 1920 ∧ j.natAbs.log2 < 1920) ∧ (shw i j).length ≤ sizeLine ∧ Q (.str (shw i j)) H) := by
  intro pins s σ H xs us Q I r h
  obtain ⟨a, i, j, rfl, hs, hij, hz, q⟩ := h
  obtain ⟨u, rfl, ru⟩ := vals1 r
  obtain rfl : u = Value.ref a := ru
  obtain ⟨its, rv, ⟨o, ho, hc, n, hd⟩, hl⟩ := I.tuple hs
  obtain ⟨u1, us1, rfl, r1, rv1⟩ : ∃ u1 us1, its = u1 :: us1 ∧ RelV (.int i) u1 ∧ Vals [.int j] us1 := by
    cases rv with
    | cons r1 rv1 => exact ⟨_, _, rfl, r1, rv1⟩
  obtain ⟨u2, rfl, r2⟩ := vals1 rv1
  obtain ⟨t1, rfl⟩ := r1
  obtain ⟨t2, rfl⟩ := r2
  exact PySem.repr_of_reads' (h₀ := s.heap) (Reads.tuple ho hc hd (.cons (.int i t1) (.cons (.int j t2) .nil))) (by simp [PyData.showable, PyData.showableAll]; exact hij) (fun z => by simp [PyData.hasDict, PyData.hasDictAll] at z) hgd (by show X.A.units + (PyData.depth (.tuple [.int i, .int j]) + 1) < cLine; have : PyData.depth (.tuple [.int i, .int j]) ≤ 50 := (by simp [PyData.depth, PyData.depthAll]); omega) (fun _ _ e => e) (fun h' u tk hk => ⟨.str _, H, I.kept hk, ⟨_, rfl⟩, q⟩) hz
theorem call_repr_bl : CallR X (.builtin "repr") (fun xs H Q => ∃ b, xs = [.bl b] ∧ Q (.str (if b then "True" else "False")) H) := by
  intro pins s σ H xs us Q I r h
  obtain ⟨b, rfl, q⟩ := h
  obtain ⟨u, rfl, ru⟩ := vals1 r
  obtain rfl : u = Value.bool b := ru
  exact PySem.P.repr_of_bool ⟨.str _, H, I.tok _, ⟨_, rfl⟩, q⟩
theorem x_reprB (cg : Cg P w K mg base k N sc X) {q : Bool} (ha : EvD X δ e (.bl q)) (hm : X.mg "repr" = none := by first | assumption | exact Cg.bf (by assumption) (by assumption) rfl) (hg : Gl X "repr" := by first | rfl | exact Cg.gl (by assumption) rfl)
    (he : starEach [e] X.env = (false, eval e X.env) :: starEach [] X.env := by rfl) (hpl : (backTo pos (starEach [] X.env)).any (·.1) = false := by rfl) : EvD X δ (.Call (.Name "repr" p) [e] [] pos) (.str (if q then "True" else "False")) :=
  v_callB call_repr_bl hm (by decide +kernel) (a_d ha a_nil he) (cd1 fun M H vs _ r => by
    obtain ⟨v, rfl, r1⟩ := one_of r
    exact ⟨q, by rw [rep_bl.mp r1], Ex.rfl, _, rfl, rs _⟩) hg (by decide) (by decide) he hpl
theorem x_repr2 (cg : Cg P w K mg base k N sc X) (hgd : X.A.guards = some []) {i j : Int} (hij : i.natAbs ≤ 1000 ∧ j.natAbs ≤ 1000) (hz : (shw i j).length ≤ sizeLine) (ha : EvD X δ e (.tup [.int i, .int j])) (hm : X.mg "repr" = none := by first | assumption | exact Cg.bf (by assumption) (by assumption) rfl) (hg : Gl X "repr" := by first | rfl | exact Cg.gl (by assumption) rfl)
    (he : starEach [e] X.env = (false, eval e X.env) :: starEach [] X.env := by rfl) (hpl : (backTo pos (starEach [] X.env)).any (·.1) = false := by rfl) : EvD X δ (.Call (.Name "repr" p) [e] [] pos) (.str (shw i j)) :=
  v_callB (call_repr_pair hgd (by have := cg.room.un; omega)) hm (by decide +kernel) (a_d ha a_nil he) (cd1 fun M H vs _ r => by
    obtain ⟨v, rfl, r1⟩ := one_of r
    obtain ⟨a, xs, rfl, h1, h2⟩ := rep_tup.mp r1
    obtain rfl := reps_int.mp (show reps _ (rowD [i, j]) xs _ from h2)
    exact ⟨a, i, j, rfl, hid_ex.t h1, ⟨Nat.lt_of_le_of_lt (Nat.log2_le_self _) (by omega), Nat.lt_of_le_of_lt (Nat.log2_le_self _) (by omega)⟩, hz, Ex.rfl, _, rfl, rs _⟩) hg (by decide) (by decide) he hpl
theorem shw_ok {c t : Int} (h0 : 0 ≤ c) (h1 : c < 7) (h2 : t.natAbs ≤ 4) : (shw c t).length ≤ sizeLine := by
  have key : ∀ i, i < 7 → ∀ j, j < 9 → (shw ((i : Nat) : Int) (((j : Nat) : Int) - 4)).length ≤ sizeLine := by decide +kernel
  have := key c.toNat (by omega) (t + 4).toNat (by omega)
  rwa [show ((c.toNat : Nat) : Int) = c by omega, show (((t + 4).toNat : Nat) : Int) - 4 = t by omega] at this
end
end DL

namespace DL
open PySem PySem.Spec PyProof.Rows L2
section
variable {p : Int} [hp : PC p] {f S : Pol p} {n : Nat} {s : Int} {m : Nat}
theorem mdU_lens (h : CR p f S n s m) (t : Int) : (mdU f S m t).1.len = t.natAbs * ln f S m + 1 ∧ (mdU f S m t).2.len ≤ t.natAbs * ln f S m + 1 := by
  refine ⟨md_len h.fd.ft h.un h.nr t, ?_⟩
  obtain ⟨x, y, M, _, _, hy, _, hu⟩ := md_un h.un h.nr t
  exact (pw_lens h.fd.ft hu hy t.natAbs).2
structure ScU (p : Int) [PC p] (f S : Pol p) (s : Int) (m : Nat) (t c : Int) (q : Pol p × Pol p) : Prop where
  l1 : q.1.len = t.natAbs * ln f S m + 1
  l2 : q.2.len ≤ t.natAbs * ln f S m + 1
  nm : (q.1 * q.1 - f * (q.2 * q.2)).len = 1
  ex : q.2 ≠ 0 → 1 ≤ (q.1.len - 1) / ln f S m
  pt : partsP p s (ln f S m) (nrm f S m) q.1.r q.2.r = (c, t)
theorem scU (h : CR p f S n s m) (t : Int) {c : Int} (h0 : 0 < c) (h1 : c < p) : ScU p f S s m t c (scP c (mdU f S m t)) := by
  have c0 : c % p ≠ 0 := sm_ne h0 h1
  have ml := mdU_lens h t
  obtain ⟨M, hM, hm⟩ := md_norm h.un h.nr t
  have l1 : (scP c (mdU f S m t)).1.len = t.natAbs * ln f S m + 1 := (Pol.scl_len c0 _).trans ml.1
  refine ⟨l1, Nat.le_trans (Nat.le_of_eq (Pol.scl_len c0 _)) ml.2, sc_norm c0 hM hm, fun hb => ?_, parts_ok h.l1 h.fd.ft h.un h.nr h0 h1 t⟩
  rw [l1, Nat.add_sub_cancel, Nat.mul_div_cancel _ h.l1]
  by_cases ht : t.natAbs = 0
  · have e : t = 0 := by omega
    subst e
    exact absurd (show Pol.C p c * (0 : Pol p) = 0 by grind) hb
  · omega
end
section
variable {P : Program} {w : World} {K : PySem.W.Frag} {mg : Str → Option Value} {base : Heap}
theorem y_neF (T : Tx K mg) {X : Cx} {δ : List Sl} {e1 e2 : Expr} {pos : Pos} {k : Nat} {N : List Str} {sc : Scope} {p : Int} {f a b c : List Int} (cg : Cg P w K mg base k N sc X) (ha : EvD X δ e1 (.fn p f a b c)) (hb : EvD X δ e2 (.fn p f a b c)) (hn : 5 ≤ k := by decide) : EvT X δ (.Compare e1 [.NotEq] [e2] pos) false :=
  t_neO (q := true) cg (sc_Function T) (ne_Function T) (mm_Function___eq__ T).at_ (mm_Function___eq__ T).fn (p_Function_eq T) hn i_fn i_fn ha hb ⟨p, f, a, b, c, a, b, c, rfl, by rw [decide_eq_true rfl, decide_eq_true rfl, decide_eq_true rfl]; rfl⟩
theorem p_law_right (T : Tx K mg) : FnG P w K mg base 21 (He.ga K "_law_right") (fun ds R => ds = [.dice] ∧ R (.bl true)) :=
  fnG_ok (N := ["_law_dice_here", "_law_prime", "_law_row", "_law_curve", "_law_due", "_law_unit", "_law_length", "_law_pair", "_law_turn", "_law_times_here", "_law_made", "_law_residue", "_law_some", "_law_value"]) (ps := ["_law_dice_here"]) (d__law_right T) (sc_of (by decide +kernel)) (fun _ _ _ _ _ _ us hl => match us, hl with | [_], _ => rfl) (fun _ _ ⟨e, _⟩ => e ▸ rfl) fun X cg hf hgd ds R ⟨ed, hR⟩ => by
    subst ed
    have bf := T.bf
    refine r_asgTN (R := fun d => ∃ (p : Int) (hp : PC p) (f : Pol p) (n : Nat) (s : Int), CDF p f n s ∧ d = .tup [.int p, rD f]) (v_fn cg (p_law_even_curve T) (d__law_even_curve T) (g__law_even_curve T) (a_d (v_var 0) (a_d (d := .lst (rowD [3, 3, 5, 7])) ((v_L (l_lst (a_d v_int (a_d v_int (a_d v_int (a_d v_int a_nil)))))).is rfl) (a_d (d := .lst (rowD [2, 4, 4, 6])) ((v_L (l_lst (a_d v_int (a_d v_int (a_d v_int (a_d v_int a_nil)))))).is rfl) a_nil))) ⟨rfl, fun p hp f n s h => ⟨p, hp, f, n, s, h, rfl⟩⟩) fun d hd => ?_
    obtain ⟨p, hp, f, n, s, hcf, ed⟩ := hd
    subst ed
    refine ⟨_, _, tg_tup cg (tp_cons 1 cg (tp_cons 2 cg tp_nil)), ?_⟩
    have h0 := hp.pos
    have h3 := hp.pr.ge
    have h7 := hp.pr.le
    show RunS X [.im .dice, .im (.int p), .im (rD f), .no, .no, .no, .no, .no, .no, .no, .no, .no, .no, .no] _ _
    generalize hS : rootS f n s hcf.cd.hs = S
    refine r_parX (Rs := fun ss => ∃ d1 r1, ss = .im d1 :: r1 ∧ d1 = .curve p f.r ∧ ∃ d2 r2, r1 = .im d2 :: r2 ∧ (d2 = .non ∨ ∃ m l, CR p f S n s m ∧ d2 = .lst l) ∧ r2 = []) 3 4 cg (sx_im (v_fn cg (p_law_sheet_of T) (d__law_sheet_of T) (g__law_sheet_of T) (a_d (v_var 1) (a_d (v_var 2) a_nil)) ⟨p, hp, f, n, s, rfl, hcf, rfl⟩) (sx_im (v_fn cg (p_law_round_rows T) (d__law_round_rows T) (g__law_round_rows T) (a_d (v_var 1) (a_d (v_var 2) (a_d v_int a_nil))) ⟨p, hp, f, n, s, hcf.cd, rfl, .inl rfl, fun m l h => .inr ⟨m, l, hS ▸ h, rfl⟩⟩) sx_nil)) (fun s1 s2 hss => ?_) (fun ss hss => ?_)
    rotate_left
    · obtain ⟨d1, r1, e1, _, d2, r2, e2, _, e3⟩ := hss
      rw [e1, e2, e3]
      rfl
    obtain ⟨d1, r1, e1, ec, d2, r2, e2, ho, e3⟩ := hss
    subst e3 e2
    cases e1
    subst ec
    rcases ho with ho | ⟨m, l, h, ho⟩
    · subst ho
      exact r_if (k := true) (t_isN (v_var 4) true (fun d M H v ed r => by cases ed; exact decide_eq_true (rep_non.mp r))) (fun _ => r_retD v_bl hR) fun hh => nomatch hh
    · subst ho
      refine r_if (k := false) (t_isN (v_var 4) false (fun d M H v ed r => by
        cases ed
        obtain ⟨a, xs, h1, _⟩ := rep_lst.mp r
        rw [h1]
        rfl)) (fun hh => nomatch hh) fun _ => r_nil ?_
      have lr := h.rd.ln
      have lp := h.l1
      have ul := up_len h
      have fl := h.fl
      refine r_par2 5 6 cg (s_im (d := .fn p f.r (unitP f S m).1.r (unitP f S m).2.r (1 : Pol p).r) (v_fn cg (p_least_unit T) (d_least_unit T) (g_least_unit T) (a_d (v_var 3) a_nil) ⟨p, hp, f, S, n, s, m, rfl, h, rfl⟩) (s_im (d := .int (ln f S m : Nat)) (v_fn cg (p_length_of T) (d_length_of T) (g_length_of T) (a_d (v_var 3) a_nil) ⟨p, hp, f, S, n, s, m, rfl, h, rfl⟩) s_nil)) ?_
      refine r_setD (d := prD (unitP f S m)) 7 cg (v_tupD (a_d (x_rowR T cg (x_fa T cg (v_var 5))) (a_d (x_rowR T cg (x_fb T cg (v_var 5))) a_nil))) ?_
      let st : List Sl → List Sl := fun z => [.im .dice, .im (.int p), .im (rD f), .im (.curve p f.r), .im (.lst l), .im (.fn p f.r (unitP f S m).1.r (unitP f S m).2.r (1 : Pol p).r), .im (.int (ln f S m : Nat)), .im (prD (unitP f S m))] ++ z
      refine r_for cg (it_range1 v_int (range62 (by decide) (by decide))) (fun _ δ' => ∃ z8 z9 z10 z11 z12 z13, δ' = st [z8, z9, z10, z11, z12, z13]) ⟨_, _, _, _, _, _, rfl⟩ (fun k d δ' hd hI => ?_) fun δ' hδ => ?_
      · obtain ⟨z8, z9, z10, z11, z12, z13, e⟩ := hI
        subst e
        refine ⟨[8], _, tg_name 8 cg, ?_⟩
        refine r_set 9 (R := fun d => ∃ t : Int, d = .int t ∧ t.natAbs ≤ 4 ∧ t.natAbs * ln f S m ≤ 120) cg (v_ifExp (t_lt (v_var 6) v_int) (fun hh => ?_) fun hh => ?_) fun d ht => ?_
        · have hh := of_decide_eq_true hh
          refine v_subN (Ra := Ib 0 9) (y_roll T cg (v_var 0) v_int (by decide) (by decide)) v_int fun x y ⟨i, ex, i0, i1⟩ ey => ⟨i, 4, ex, ey, i - 4, rfl, by omega, ?_⟩
          have h4 : (i - 4).natAbs ≤ 4 := by omega
          exact Nat.le_trans (Nat.mul_le_mul h4 (show ln f S m ≤ 20 by omega)) (by decide)
        · refine v_subN (Ra := Ib 0 5) (y_roll T cg (v_var 0) v_int (by decide) (by decide)) v_int fun x y ⟨i, ex, i0, i1⟩ ey => ⟨i, 2, ex, ey, i - 2, rfl, by omega, ?_⟩
          have h4 : (i - 2).natAbs ≤ 2 := by omega
          exact Nat.le_trans (Nat.mul_le_mul h4 lr) (by decide)
        · obtain ⟨t, et, t4, tl⟩ := ht
          subst et
          have ml := mdU_lens h t
          refine r_setD (d := prD (mdU f S m t)) 10 cg (v_fn cg (p_law_own_power T) (d__law_own_power T) (g__law_own_power T) (a_d (v_var 1) (a_d (v_var 2) (a_d (v_var 7) (a_d (v_var 9) a_nil)))) ⟨p, hp, f, (unitP f S m).1, (unitP f S m).2, n, ln f S m, s, nrm f S m, t, rfl, fl, h.fd.ft, h.un, h.nr.1, h.nr.2, ul.1, ul.2, by omega, by omega, rfl⟩) ?_
          have hmul : ((t.natAbs : Nat) : Int) * ((ln f S m : Nat) : Int) = ((t.natAbs * ln f S m : Nat) : Int) := by rw [Int.natCast_mul]
          refine r_if (k := false) (t_w ((w_or (k := false) (m := false) (y_neF T cg (v_fn cg (p_unit_power T) (d_unit_power T) (g_unit_power T) (a_d (v_var 3) (a_d (v_var 9) a_nil)) ⟨p, hp, f, S, n, s, m, t, rfl, h, by omega, by omega, rfl⟩) (v_fn cg (p_law_plain T) (d__law_plain T) (g__law_plain T) (a_d (v_var 3) (a_d (v_var 1) (a_d (v_var 10) a_nil))) ⟨p, hp, f, mdU f S m t, rfl, fl, by omega, by omega, rfl⟩)) fun _ => w_or1 ((t_neI (v_len .t (v_item .t (v_var 10) v_int rfl)) (v_add (v_mul (i := ((t.natAbs : Nat) : Int)) (j := ((ln f S m : Nat) : Int)) (.inl (small64 (by omega) (by omega))) (v_absN (v_var 9)) (v_var 6)) v_int)).is ?_)).is rfl)) (fun hh => nomatch hh) fun _ => r_nil ?_
          · rw [row_len, hmul, decide_eq_true (by have : (mdU f S m t).1.r.length = t.natAbs * ln f S m + 1 := ml.1; omega)]
            rfl
          refine r_set 11 (R := Ib 1 p) cg (v_addN (Rb := Ib 0 (p - 1)) v_int (y_roll T cg (v_var 0) (v_sub (v_var 1) v_int) (by omega) (by omega)) fun x y hx ⟨i, ey, i0, i1⟩ => ⟨1, i, hx, ey, 1 + i, rfl, by omega, by omega⟩) fun d hc => ?_
          obtain ⟨c, ec, c0, c1⟩ := hc
          subst ec
          have sc := scU h t (c := c) (by omega) c1
          refine r_setD (d := prD (scP c (mdU f S m t))) 12 cg (v_tupD (a_d (v_fn cg (p_law_scaled T) (d__law_scaled T) (g__law_scaled T) (a_d (v_var 1) (a_d (v_item .t (v_var 10) v_int rfl) (a_d (v_var 11) a_nil))) ⟨p, hp, (mdU f S m t).1, c, rfl, by omega, by omega, c1, rfl⟩) (a_d (v_fn cg (p_law_scaled T) (d__law_scaled T) (g__law_scaled T) (a_d (v_var 1) (a_d (v_item .t (v_var 10) v_int rfl) (a_d (v_var 11) a_nil))) ⟨p, hp, (mdU f S m t).2, c, rfl, by omega, by omega, c1, rfl⟩) a_nil))) ?_
          generalize hq : scP c (mdU f S m t) = q at *
          have q1 := sc.l1
          have q2 := sc.l2
          have hz : (shw c t).length ≤ sizeLine := shw_ok (by omega) (by omega) t4
          refine r_if (k := false) ((t_neS (s := shw c t) (t := shw c t) (x_repr2 cg hgd ⟨by omega, by omega⟩ hz (v_fn cg (p_unit_parts T) (d_unit_parts T) (g_unit_parts T) (a_d (v_var 3) (a_d (d := .fn p f.r q.1.r q.2.r (1 : Pol p).r) (v_fn cg (p_law_plain T) (d__law_plain T) (g__law_plain T) (a_d (v_var 3) (a_d (v_var 1) (a_d (v_var 12) a_nil))) ⟨p, hp, f, q, rfl, fl, by omega, by omega, rfl⟩) a_nil)) ⟨p, hp, f, S, n, s, m, q.1, q.2, rfl, h, by omega, by omega, sc.nm, sc.ex, by rw [sc.pt]⟩)) (x_repr2 cg hgd ⟨by omega, by omega⟩ hz (v_tupD (a_d (v_var 11) (a_d (v_var 9) a_nil))))).is (by rw [decide_eq_true rfl]; rfl)) (fun hh => nomatch hh) fun _ => r_nil ?_
          refine r_forN (Rl := fun ds => ∀ v ∈ ds, ∃ q, UV4 f v q) cg (v_fn cg (p_law_near T) (d__law_near T) (g__law_near T) (a_d (v_var 0) (a_d (v_var 3) (a_d (v_var 1) (a_d (v_var 2) (a_d (v_var 12) a_nil))))) ⟨p, hp, f, q.1, q.2, rfl, fl, by omega, by omega, fun l hl _ => ⟨l, rfl, hl⟩⟩) (fun δ' => ∃ z13, δ' = st [.im d, .im (.int t), .im (prD (mdU f S m t)), .im (.int c), .im (prD q), z13]) ⟨_, rfl⟩ (fun ds v δ' hds hv hI => ?_) fun δ' hI => ?_
          · obtain ⟨z13, e⟩ := hI
            subst e
            obtain ⟨q', hu⟩ := hds v hv
            refine ⟨[13], _, tg_name 13 cg, ?_⟩
            refine r_if (k := false) ((t_neS (s := if q' then "True" else "False") (t := if q' then "True" else "False") (x_reprB cg (v_fn cg (p_is_unit T) (d_is_unit T) (g_is_unit T) (a_d (v_var 3) (a_d (v_var 13) a_nil)) ⟨p, hp, f, v, q', rfl, fl, h.cd.two, hu.uv, rfl⟩)) (x_reprB cg (v_fn cg (p_law_is_own T) (d__law_is_own T) (g__law_is_own T) (a_d (v_var 1) (a_d (v_var 2) (a_d (v_var 13) a_nil))) ⟨p, hp, f, v, q', rfl, fl, hu, rfl⟩))).is (by rw [decide_eq_true rfl]; rfl)) (fun hh => nomatch hh) fun _ => r_nil (r_nil ⟨_, rfl⟩)
          · obtain ⟨z13, e⟩ := hI
            subst e
            exact r_nil ⟨_, _, _, _, _, _, rfl⟩
      · obtain ⟨z8, z9, z10, z11, z12, z13, e⟩ := hδ
        subst e
        exact r_retD v_bl hR
end
end DL

namespace DL
open PySem PySem.Spec PyProof.Rows L2
/-! ### rules on texts -/
section
variable {X : Cx} {δ : List Sl} {a b c e o : Expr} {es : List Expr} {pos apos p p1 p2 : Pos} {R : Dt → Prop} {ds : List Dt} {d : Dt} {tg : Expr} {s t : Str} {x : Str} {l h : Option Int} {lo hi : Option Expr}
variable {P : Program} {w : World} {K : PySem.W.Frag} {mg : Str → Option Value} {base : Heap} {k n : Nat} {N : List Str} {sc : Scope} {C g f : Addr} {S : Sd} {Rs : List Dt → Prop}
theorem v_split (ht : (t.length == 0) = false) (hs : s.length + 2 ≤ sizeLine) (ha : EvD X δ a (.str s)) (hb : EvD X δ b (.str t)) (hst : starEach [b] X.env = [(false, eval b X.env)] := by rfl) (hbase : attributeBase a "split" X.env (eval a X.env) = eval a X.env := by rfl) (hline : (apos.endLine == pos.line) = true := by rfl) :
    EvL X δ (.Call (.Attribute a "split" apos) [b] [] pos) ((Txt.split s t).map Dt.str) := fun M0 M H0 σ H g =>
  tev_of (pe_split pe_tev pe_tev hst hbase hline) (tev_mono (ha M0 M H0 σ H g) fun v H1 ⟨e1, d, ed, r⟩ => by
    cases ed
    refine ⟨⟨s, rep_str.mp r⟩, tev_mono (hb M0 M H0 σ H1 (g.grow e1)) fun u H2 ⟨e2, d, ed, r2⟩ => ?_⟩
    cases ed
    exact ⟨s, t, rep_str.mp r, by rw [rep_str.mp r2], ht, hs, fun p hp => ⟨p, _, H2, rfl, e1.trans e2, hp, rfl, reps_str.mpr rfl⟩⟩)
theorem v_partition (ht : (t.length == 0) = false) (hs : s.length ≤ sizeLine) (ha : EvD X δ a (.str s)) (hb : EvD X δ b (.str t)) (hst : starEach [b] X.env = [(false, eval b X.env)] := by rfl) (hbase : attributeBase a "partition" X.env (eval a X.env) = eval a X.env := by rfl) (hline : (apos.endLine == pos.line) = true := by rfl) :
    EvD X δ (.Call (.Attribute a "partition" apos) [b] [] pos) (.tup [.str (Txt.partition s t).1, .str (Txt.partition s t).2.1, .str (Txt.partition s t).2.2]) := fun M0 M H0 σ H g =>
  tev_of (pe_partition pe_tev pe_tev hst hbase hline) (tev_mono (ha M0 M H0 σ H g) fun v H1 ⟨e1, d, ed, r⟩ => by
    cases ed
    refine ⟨⟨s, rep_str.mp r⟩, tev_mono (hb M0 M H0 σ H1 (g.grow e1)) fun u H2 ⟨e2, d, ed, r2⟩ => ?_⟩
    cases ed
    exact ⟨s, t, rep_str.mp r, by rw [rep_str.mp r2], ht, hs, fun p hp => ⟨(e1.trans e2).trans (Ex.new hp), _, rfl, rep_new ((g.grow e1).grow e2).dom hp (reps_mk (rep_str.mpr rfl) (reps_mk (rep_str.mpr rfl) (reps_mk (rep_str.mpr rfl) (reps_nil.mpr rfl))))⟩⟩)
theorem v_intS {i : Int} (hi : PySem.intText? s = some i) (hl : s.length ≤ 640) (ha : EvD X δ e (.str s)) (hm : X.mg "int" = none := by first | assumption | exact Cg.bf (by assumption) (by assumption) rfl) (hg : Gl X "int" := by first | rfl | exact Cg.gl (by assumption) rfl) (he : starEach [e] X.env = (false, eval e X.env) :: starEach [] X.env := by rfl) (hpl : (backTo pos (starEach [] X.env)).any (·.1) = false := by rfl) :
    EvD X δ (.Call (.Name "int" p) [e] [] pos) (.int i) :=
  v_callTy call_int_str hm (by decide +kernel) (a_d ha a_nil he) (cd1 fun M H vs _ r => by
    obtain ⟨v, rfl, r1⟩ := one_of r
    exact ⟨s, i, by rw [rep_str.mp r1], hi, hl, Ex.rfl, _, rfl, ri _⟩) hg (by decide) (by decide) he hpl
theorem v_slS (hs : s.length ≤ sizeLine) (ha : EvD X δ a (.str s)) (hl : EvO X δ lo l) (hh : EvO X δ hi h) : EvD X δ (.Subscript a (.Slice lo hi none p2) pos) (.str (cutS s l h)) :=
  v_slice sl_str ha hl hh fun dx e M H vx dom q => by
    cases e
    exact ⟨s, rep_str.mp q, hs, Ex.rfl, _, rfl, rs _⟩
theorem it_str (ha : EvD X δ e (.str s)) : IterD X δ tg e (s.cps.toList.map fun c => Dt.str ⟨#[c]⟩) := fun M0 M H0 σ H g =>
  tpi_of (pi_str pe_tev) (tev_mono (ha M0 M H0 σ H g) fun v H1 ⟨e1, d, ed, q⟩ => by
    cases ed
    refine ⟨s, rep_str.mp q, e1, ?_⟩
    rw [List.length_map, Array.length_toList]
    refine walk_str.mono (fun H' e => trivial) fun i H2 x H3 hi eg ⟨eh, c, hc, ex⟩ => ?_
    subst eh ex
    exact ⟨Ex.rfl, .str ⟨#[c]⟩, by rw [List.getElem?_map, Array.getElem?_toList, hc]; rfl, fun M' _ e2 => rep_str.mpr rfl⟩)
theorem v_inS {q : Nat} (ha : EvD X δ a (.str ⟨#[q]⟩)) (hb : EvD X δ b (.str s)) (hm : behindInMarks .In b = false := by rfl) : EvD X δ (.Compare a [.In] [b] pos) (.bl (decide (q ∈ s.cps.toList))) := v_cmp op_in_sign ha hb (d2 fun M H vx vy _ rx ry => ⟨q, s, rep_str.mp rx, rep_str.mp ry, Ex.rfl, _, rfl, rb _⟩) hm
theorem t_inD {da db : Dt} {x : PyData} {ys : List PyData} (cg : Cg P w K mg base k N sc X) (hx : pdOf da = some x) (hy : pdOf db = some (.list ys)) (sx : SeqAt.shaped x = true) (sy : SeqAt.shaped (.list ys) = true) (ha : EvD X δ a da) (hb : EvD X δ b db) (hm : behindInMarks .In b = false := by rfl) : EvT X δ (.Compare a [.In] [b] pos) (ys.any fun z => PyData.eqv z x) :=
  t_cmp (op_inD (by have := cg.room.un; omega)) ha hb (d2 fun M H vx vy _ rx ry => ⟨x, ys, dp_of da vx x hx (rep_mono hid_ex rx), dp_of db vy _ hy (rep_mono hid_ex ry), sx, sy, Ex.rfl, _, rfl, rb _⟩) hm
theorem v_maxL {r : List Int} {m : Int} (cg : Cg P w K mg base k N sc X) (h0 : 0 < r.length) (hx : ∀ k, k ∈ r → (∀ y, y ∈ r → y ≤ k) → k = m) (ha : EvD X δ e (.lst (rowD r))) (hm : X.mg "max" = none := by first | assumption | exact Cg.bf (by assumption) (by assumption) rfl) (hg : Gl X "max" := by first | rfl | exact Cg.gl (by assumption) rfl)
    (he : starEach [e] X.env = (false, eval e X.env) :: starEach [] X.env := by rfl) (hpl : (backTo pos (starEach [] X.env)).any (·.1) = false := by rfl) : EvD X δ (.Call (.Name "max" p) [e] [] pos) (.int m) :=
  v_callB (cr_max cg.calm) hm (by decide +kernel) (a_d ha a_nil he) (cd1 fun M H vs dom q => by
    obtain ⟨v, rfl, r1⟩ := one_of q
    obtain ⟨a, xs, rfl, h1, h2⟩ := rep_lst.mp r1
    rw [reps_int.mp h2] at h1
    exact ⟨a, r, rfl, SqL.of (hid_ex _ _ h1), h0, fun k hk hle => ⟨Ex.rfl, _, rfl, by rw [hx k hk hle]; exact ri _⟩⟩) hg (by decide) (by decide) he hpl
/-- x(..), x a name that holds a class -/
theorem v_newV {T : Si} (i : Nat) (cg : Cg P w K mg base k N sc X) (mk : Mk K C g) (F : FnR P w K mg base CX0 n g (spI K C T)) (hn : n + 1 ≤ k) (ha : EvA X δ (e :: es) Rs)
    (h : ∀ ds, Rs ds → ∃ RF, T ds RF ∧ ∀ fs, RF fs → (∃ d, fs[0]? = some (some d)) ∧ ∃ d, R d ∧ Seal K C fs d) (hf : EvD X δ (.Name x p) (.val (.ref C)))
    (he : starEach (e :: es) X.env = (false, eval e X.env) :: starEach es X.env := by rfl) (hpl : (backTo pos (starEach es X.env)).any (·.1) = false := by rfl) : EvE X δ (.Call (.Name x p) (e :: es) [] pos) R := fun M0 M H0 σ H G => by
  obtain ⟨rfl, rfl, rfl, rfl, rfl, rfl, rfl, nd, room, calm, nox⟩ := cg
  have run : PE X (.Call (.Name x p) (e :: es) [] pos) (fun σ H Q => tev X (.Name x p) σ H fun v H1 => v = .ref C ∧ StX.tMakeR C (spI X.K C T) E0 (tea X (e :: es)) σ H1 Q) := ⟨fun pins s σ H Q I hh => by
    refine wpAny_Call_Name_kw (thn (pe_tev.run pins s σ H _ I hh) fun u s1 ⟨v, H1, I1, r1, ev, q1⟩ => ?_)
    subst ev
    obtain rfl : u = Value.ref C := r1
    exact PySem.W.callWith_K (h₀ := X.base) I.ok.mod.kin mk.kp (thn (pa_tea.run pos pins s1 σ H1 _ I1 q1) fun us s2 ⟨vs, H2, I2, r, q⟩ => ⟨I2.kIn, StX.run_makeR mk F (room.mono hn) pass0 I2 r q⟩) he hpl⟩
  refine tev_of run (tev_mono (hf M0 M H0 σ H G) fun v H1' ⟨e0, d, ed, rv⟩ => ⟨?_, ?_⟩)
  · cases ed
    exact rep_val.mp rv
  refine tea_mono (ha M0 M H0 σ H1' (G.grow e0)) fun vs H1 ⟨e1, ds, rs, q⟩ y dy hy hdy ne => ?_
  obtain ⟨RF, t1, t2⟩ := h ds rs
  have dom := ((G.grow e0).grow e1).dom
  refine ⟨M, H1, y, dy, vs, ds, RF, rfl, hy, hdy, ne, rfl, dom, q, t1, fun fs vals H2 rf e2 hs hv => ⟨rfl, (e0.trans e1).trans e2, ?_⟩⟩
  obtain ⟨⟨d0, hd0⟩, d, rd, sl⟩ := t2 fs rf
  refine ⟨d, rd, ?_⟩
  have nv : vals ≠ [] := fun z => by
    obtain ⟨v, hv0, _⟩ := hv 0 d0 hd0
    rw [z] at hv0
    cases hv0
  have hyM : y ∉ M := fun z => dom y z hy
  have hdM : dy ∉ M := fun z => dom dy z hdy
  rcases hs with ⟨_, q2⟩ | ⟨q1, q2⟩
  · exact absurd q2 nv
  · exact sl y dy vals _ (by rw [hid_at hyM]; exact q1) (by rw [hid_at hdM]; exact q2) fun j d hj => by
      obtain ⟨v, a, b⟩ := hv j d hj
      exact ⟨v, a, rep_mono (hid_sub fun l hl => List.mem_cons_of_mem _ (List.mem_cons_of_mem _ hl)) b⟩
/-- c.m(..), m a classmethod of the class c -/
theorem v_cmeth {m : Str} {mc : Value} {q : Addr} {pl : Sem Bool} (cg : Cg P w K mg base k N sc X) (r : ClX.CRead K C mc) (c : ClX.CMet K C mc m q g) (F : FnA P w K mg base n g S) (hn : n ≤ k) (ho : EvD X δ o (.val (.ref C))) (ha : EvA X δ (e :: es) Rs) (h : ∀ ds, Rs ds → S (.val (.ref C) :: ds) R)
    (hst : starEach (e :: es) X.env = (false, eval e X.env) :: starEach es X.env := by rfl) (hpl : (backTo pos (starEach es X.env)).any (·.1) = false := by rfl)
    (ht : eval (.Call (.Attribute o m apos) (e :: es) [] pos) X.env = (do
      let ov ← eval o X.env
      standAt apos.atName
      let (f, first) ← holding [ov] (getMethod ov m pl)
      callWith pos f first (backTo pos (starEach (e :: es) X.env)) (backToKw pos (keywordEach [] X.env))) := by rfl) : EvE X δ (.Call (.Attribute o m apos) (e :: es) [] pos) R := fun M0 M H0 σ H G => by
  obtain ⟨rfl, rfl, rfl, rfl, rfl, rfl, rfl, nd, room, calm, nox⟩ := cg
  refine tev_of (ClX.pe_cmeth (CX := CX0) (E := E0) (pl := pl) pe_tev r c F (room.mono hn) pass0 pa_tea hst hpl ht) (tev_mono (ho M0 M H0 σ H G) fun v H1 ⟨e1, d, ed, rv⟩ => ?_)
  cases ed
  refine ⟨rep_val.mp rv, tea_mono (ha M0 M H0 σ H1 (G.grow e1)) fun vs H2 ⟨e2, ds, rs, q⟩ => ⟨M, .val (.ref C) :: ds, R, ((G.grow e1).grow e2).dom, reps_mk (rep_val.mpr rfl) q, h ds rs, fun d v H3 rd e3 r => ⟨(e1.trans e2).trans e3, d, rd, r⟩⟩⟩
end
end DL

namespace DL
open PySem PySem.Spec PyProof.Rows L2
section
variable {X : Cx} {δ : List Sl} {e : Expr} {pos p : Pos} {s : Str}
theorem v_lenS (hs : s.length ≤ sizeLine) (ha : EvD X δ e (.str s)) (hm : X.mg "len" = none := by first | assumption | exact Cg.bf (by assumption) (by assumption) rfl) (hg : Gl X "len" := by first | rfl | exact Cg.gl (by assumption) rfl) (he : starEach [e] X.env = (false, eval e X.env) :: starEach [] X.env := by rfl) (hpl : (backTo pos (starEach [] X.env)).any (·.1) = false := by rfl) :
    EvD X δ (.Call (.Name "len" p) [e] [] pos) (.int (s.length : Nat)) :=
  v_callB call_len_str hm (by decide +kernel) (a_d ha a_nil he) (cd1 fun M H vs _ r => by
    obtain ⟨v, rfl, r1⟩ := one_of r
    exact ⟨s, by rw [rep_str.mp r1], hs, Ex.rfl, _, rfl, ri _⟩) hg (by decide) (by decide) he hpl
end
section
variable {P : Program} {w : World} {K : PySem.W.Frag} {mg : Str → Option Value} {base : Heap}
def figB (s : Str) : Bool := (s.cps.toList.map fun c => decide (c ∈ ("0123456789" : Str).cps.toList)).all id
theorem p_poly_figures (T : Tx K mg) : FnA P w K mg base 1 (He.ga K "poly_figures") (fun ds R => ∃ (s : Str) (i : Int), ds = [.str s] ∧ s.length = 1 ∧ s.cps.toList.length ≤ 10 ∧ figB s = true ∧ PySem.intText? s = some i ∧ R (.int i)) :=
  fn_ok (N := ["text", "sign"]) (ps := ["text"]) (d_poly_figures T) (sc_of (by decide +kernel)) (fun _ _ _ _ _ _ us hl => match us, hl with | [_], _ => rfl) (fun _ _ ⟨_, _, e, _⟩ => e ▸ rfl) fun X cg hf ds R ⟨s, i, ed, h1, h2, hb, hi, hR⟩ => by
    subst ed
    have bf := T.bf
    have hs : s.length ≤ sizeLine := by rw [h1]; decide
    refine r_if (k := false) ((t_w (w_or (k := false) (m := false) ((t_not (t_chain op_le op_le v_int (v_lenS hs (v_var 0)) (v_gi cg (g_MOST_FIGURES T)))).is (by rw [h1]; rfl)) fun _ => w_or1 ((t_not (t_val (v_all (r := s.cps.toList.map fun c => decide (c ∈ ("0123456789" : Str).cps.toList)) cg ((v_lc cg (lc_map (xs := s.cps.toList) (gd := fun c => .str ⟨#[c]⟩) (f := fun c => .bl (decide (c ∈ ("0123456789" : Str).cps.toList))) [("sign", 1)] cg (by omega) (it_str (v_var 0)) fun XB cb q hq =>
      ⟨tg_name 1 cb, v_inS (v_var 1) (v_gs cb (g_FIGURES T))⟩)).is (by rw [List.map_map]; rfl))))).is (by rw [show (s.cps.toList.map fun c => decide (c ∈ ("0123456789" : Str).cps.toList)).all id = true from hb]; rfl)))).is rfl) (fun h => nomatch h) fun _ => r_nil ?_
    exact r_retD (v_intS hi (by omega) (v_var 0)) hR
def Fig (s : Str) (i : Int) : Prop := s.length = 1 ∧ s.cps.toList.length ≤ 10 ∧ figB s = true ∧ PySem.intText? s = some i
theorem x_fig (T : Tx K mg) {X : Cx} {δ : List Sl} {e : Expr} {pos p1 : Pos} {k : Nat} {N : List Str} {sc : Scope} {s : Str} {i : Int} (cg : Cg P w K mg base k N sc X) (h : Fig s i) (ha : EvD X δ e (.str s)) (hn : 1 ≤ k := by decide) (hg : Gl X "poly_figures" := by first | rfl | exact Cg.gl (by assumption) rfl)
    (he : starEach [e] X.env = (false, eval e X.env) :: starEach [] X.env := by rfl) (hpl : (backTo pos (starEach [] X.env)).any (·.1) = false := by rfl) : EvD X δ (.Call (.Name "poly_figures" p1) [e] [] pos) (.int i) :=
  v_fn cg (p_poly_figures T) (d_poly_figures T) (g_poly_figures T) (a_d ha a_nil he) ⟨s, i, rfl, h.1, h.2.1, h.2.2.1, h.2.2.2, rfl⟩ hn hg (by decide) he hpl
theorem nonF {X : Cx} {M : List Addr} {H : Hp} {v : V} {i : Int} (r : rep X.K (.int i) v (hid M H)) : decide (v = V.non) = false := by
  rw [rep_int.mp r]
  rfl
/-- what a term of the written text tells -/
inductive Term (s : Str) (e k : Int) : Prop where
  | a (h l t u : Str) : Txt.partition s "x" = (h, l, t) → h = "" → l = "x" → t ≠ "" → t.length ≤ 100 → cutS t (some 1) none = u → Fig u k → e = 1 → Term s e k
  | b (h l t u : Str) : Txt.partition s "x" = (h, l, t) → h ≠ "" → l = "x" → t ≠ "" → t.length ≤ 100 → cutS t (some 1) none = u → Fig u k → Fig h e → Term s e k
  | c (h l t : Str) : Txt.partition s "x" = (h, l, t) → h ≠ "" → l = "" → Fig h e → k = 0 → Term s e k
theorem p_poly_term_in (T : Tx K mg) : FnA P w K mg base 2 (He.ga K "poly_term_in") (fun ds R => ∃ (s : Str) (e k : Int), ds = [.str s] ∧ s.length ≤ 100 ∧ Term s e k ∧ R (.tup [.int e, .int k])) :=
  fn_ok (N := ["text", "head", "letter", "tail", "entry", "power"]) (ps := ["text"]) (d_poly_term_in T) (sc_of (by decide +kernel)) (fun _ _ _ _ _ _ us hl => match us, hl with | [_], _ => rfl) (fun _ _ ⟨_, _, _, e, _⟩ => e ▸ rfl) fun X cg hf ds R ⟨s, e, k, ed, hs, ht, hR⟩ => by
    subst ed
    have bf := T.bf
    cases ht with
    | a h l t u hp hh hl ht tl hu fu he =>
      subst hh hl he
      refine r_asgT (d := .tup [.str "", .str "x", .str t]) ((v_partition (s := s) (t := "x") (by decide +kernel) (Nat.le_trans hs (by decide)) (v_var 0) (v_gs cg (g_LETTER T))).is (by rw [hp])) (tg_tup cg (tp_cons 1 cg (tp_cons 2 cg (tp_cons 3 cg tp_nil)))) ?_
      refine r_setD (d := .int 1) 4 cg (v_ifExp (k := true) (t_w ((w_and (k := true) (m := true) ((t_eqS (v_var 1) v_str).is (by decide +kernel)) fun _ => w_and1 ((t_neS (v_var 2) v_str).is (by decide +kernel))).is rfl)) (fun _ => v_int) fun h => nomatch h) ?_
      refine r_if (k := false) ((t_eqS (v_var 2) v_str).is (by decide +kernel)) (fun h => nomatch h) fun _ => r_nil ?_
      refine r_setD (d := .int k) 5 cg (v_ifExp (k := false) ((t_eqS (v_var 3) v_str).is (decide_eq_false ht)) (fun h => nomatch h) fun _ => x_fig T cg (hu ▸ fu) (v_slS (Nat.le_trans tl (by decide)) (v_var 3) (o_some v_int) o_none)) ?_
      exact r_retD (v_ifExp (k := false) (t_w ((w_or (k := false) (m := false) (t_isN (v_var 4) false (fun d M H v ed r => by cases ed; exact nonF r)) fun _ => w_or1 (t_isN (v_var 5) false (fun d M H v ed r => by cases ed; exact nonF r))).is rfl)) (fun h => nomatch h) fun _ => v_tupD (a_d (v_var 4) (a_d (v_var 5) a_nil))) hR
    | b h l t u hp hh hl ht tl hu fu fh =>
      subst hl
      refine r_asgT (d := .tup [.str h, .str "x", .str t]) ((v_partition (s := s) (t := "x") (by decide +kernel) (Nat.le_trans hs (by decide)) (v_var 0) (v_gs cg (g_LETTER T))).is (by rw [hp])) (tg_tup cg (tp_cons 1 cg (tp_cons 2 cg (tp_cons 3 cg tp_nil)))) ?_
      refine r_setD (d := .int e) 4 cg (v_ifExp (k := false) (t_w ((w_and (k := false) (m := false) ((t_eqS (v_var 1) v_str).is (decide_eq_false hh)) fun h => nomatch h).is rfl)) (fun h => nomatch h) fun _ => x_fig T cg fh (v_var 1)) ?_
      refine r_if (k := false) ((t_eqS (v_var 2) v_str).is (by decide +kernel)) (fun h => nomatch h) fun _ => r_nil ?_
      refine r_setD (d := .int k) 5 cg (v_ifExp (k := false) ((t_eqS (v_var 3) v_str).is (decide_eq_false ht)) (fun h => nomatch h) fun _ => x_fig T cg (hu ▸ fu) (v_slS (Nat.le_trans tl (by decide)) (v_var 3) (o_some v_int) o_none)) ?_
      exact r_retD (v_ifExp (k := false) (t_w ((w_or (k := false) (m := false) (t_isN (v_var 4) false (fun d M H v ed r => by cases ed; exact nonF r)) fun _ => w_or1 (t_isN (v_var 5) false (fun d M H v ed r => by cases ed; exact nonF r))).is rfl)) (fun h => nomatch h) fun _ => v_tupD (a_d (v_var 4) (a_d (v_var 5) a_nil))) hR
    | c h l t hp hh hl fh hk =>
      subst hl hk
      refine r_asgT (d := .tup [.str h, .str "", .str t]) ((v_partition (s := s) (t := "x") (by decide +kernel) (Nat.le_trans hs (by decide)) (v_var 0) (v_gs cg (g_LETTER T))).is (by rw [hp])) (tg_tup cg (tp_cons 1 cg (tp_cons 2 cg (tp_cons 3 cg tp_nil)))) ?_
      refine r_setD (d := .int e) 4 cg (v_ifExp (k := false) (t_w ((w_and (k := false) (m := false) ((t_eqS (v_var 1) v_str).is (decide_eq_false hh)) fun h => nomatch h).is rfl)) (fun h => nomatch h) fun _ => x_fig T cg fh (v_var 1)) ?_
      refine r_if (k := true) ((t_eqS (v_var 2) v_str).is (by decide +kernel)) (fun _ => ?_) fun h => nomatch h
      exact r_retD (v_ifExp (k := false) (t_isN (v_var 4) false (fun d M H v ed r => by cases ed; exact nonF r)) (fun h => nomatch h) fun _ => v_tupD (a_d (v_var 4) (a_d v_int a_nil))) hR
end
end DL

namespace DL
open PySem PySem.Spec PyProof.Rows L2
abbrev txtE : Str := "x^6+2x^5+x^4+1"
def tmsE : List (Str × Int × Int) := [("x^6", 1, 6), ("2x^5", 2, 5), ("x^4", 1, 4), ("1", 1, 0)]
theorem tms_ok : ∀ q ∈ tmsE, q.1.length ≤ 100 ∧ Term q.1 q.2.1 q.2.2 ∧ 0 ≤ q.2.2 ∧ q.2.2 ≤ 6 := by
  intro q hq
  simp only [tmsE, List.mem_cons, List.not_mem_nil, or_false] at hq
  rcases hq with rfl | rfl | rfl | rfl
  · exact ⟨by decide +kernel, .a "" "x" "^6" "6" (by decide +kernel) rfl rfl (by decide +kernel) (by decide +kernel) (by decide +kernel) ⟨by decide +kernel, by decide +kernel, by decide +kernel, by decide +kernel⟩ rfl, by decide, by decide⟩
  · exact ⟨by decide +kernel, .b "2" "x" "^5" "5" (by decide +kernel) (by decide +kernel) rfl (by decide +kernel) (by decide +kernel) (by decide +kernel) ⟨by decide +kernel, by decide +kernel, by decide +kernel, by decide +kernel⟩ ⟨by decide +kernel, by decide +kernel, by decide +kernel, by decide +kernel⟩, by decide, by decide⟩
  · exact ⟨by decide +kernel, .a "" "x" "^4" "4" (by decide +kernel) rfl rfl (by decide +kernel) (by decide +kernel) (by decide +kernel) ⟨by decide +kernel, by decide +kernel, by decide +kernel, by decide +kernel⟩ rfl, by decide, by decide⟩
  · exact ⟨by decide +kernel, .c "1" "" "" (by decide +kernel) (by decide +kernel) rfl ⟨by decide +kernel, by decide +kernel, by decide +kernel, by decide +kernel⟩ rfl, by decide, by decide⟩
def setE (r : List Int) (q : Str × Int × Int) : List Int := r.set q.2.2.toNat (q.2.1 % 3)
theorem setE_len : ∀ (l : List (Str × Int × Int)) (r : List Int), (l.foldl setE r).length = r.length
  | [], r => rfl
  | q :: l, r => by rw [List.foldl_cons, setE_len l]; exact List.length_set
abbrev rowE : List Int := [1, 0, 0, 0, 1, 2, 1]
section
variable {P : Program} {w : World} {K : PySem.W.Frag} {mg : Str → Option Value} {base : Heap}
theorem p_poly_row_in (T : Tx K mg) : FnA P w K mg base 3 (He.ga K "poly_row_in") (fun ds R => ds = [.int 3, .str txtE] ∧ R (.tup (rowD rowE))) :=
  fn_ok (N := ["prime", "text", "terms", "part", "row", "entry", "power"]) (ps := ["prime", "text"]) (d_poly_row_in T) (sc_of (by decide +kernel)) (fun _ _ _ _ _ _ us hl => match us, hl with | [_, _], _ => rfl) (fun _ _ ⟨e, _⟩ => e ▸ rfl) fun X cg hf ds R ⟨ed, hR⟩ => by
    subst ed
    have bf := T.bf
    refine r_setLc 2 cg (lc_map (xs := tmsE) (gd := fun q => .str q.1) (f := fun q => .tup [.int q.2.1, .int q.2.2]) [("part", 3)] cg (by decide) ((it_list (v_L (v_split (s := txtE) (t := "+") (by decide +kernel) (by decide +kernel) (v_var 1) v_str))).is ?_) fun XB cb q hq =>
      ⟨tg_name 3 cb, v_fn cb (p_poly_term_in T) (d_poly_term_in T) (g_poly_term_in T) (a_d (v_var 3) a_nil) ⟨q.1, q.2.1, q.2.2, rfl, (tms_ok q hq).1, (tms_ok q hq).2.1, rfl⟩⟩) ?_
    · rw [show Txt.split txtE "+" = (["x^6", "2x^5", "x^4", "1"] : List Str) by decide +kernel]
      rfl
    refine r_freeze 2 rfl ?_
    refine r_if (k := false) ((t_inD (x := .none) (ys := [.tuple [.int 1, .int 6], .tuple [.int 2, .int 5], .tuple [.int 1, .int 4], .tuple [.int 1, .int 0]]) cg rfl rfl (by decide +kernel) (by decide +kernel) v_non (v_var 2)).is (by decide +kernel)) (fun h => nomatch h) fun _ => r_nil ?_
    refine r_setM (ds := rowD [0, 0, 0, 0, 0, 0, 0]) 4 cg (l_rep (ds := [.int 0]) (n := 1 + 6) (by decide) (by decide) (by decide) (v_L (l_lst (a_d v_int a_nil))) (v_add v_int (v_maxL (r := [6, 5, 4, 0]) (m := 6) cg (by decide) (fun k hk h => ?_) ((v_lc cg (lc_map (xs := tmsE) (gd := fun q => .tup [.int q.2.1, .int q.2.2]) (f := fun q => .int q.2.2) [("entry", 5), ("power", 6)] cg (by decide) (it_list (v_var 2)) fun XB cb q hq =>
      ⟨tg_tup cb (tp_cons 5 cb (tp_cons 6 cb tp_nil)), v_var 6⟩)).is rfl)))) ?_
    · have h6 := h 6 (by decide)
      simp only [List.mem_cons, List.not_mem_nil, or_false] at hk
      omega
    let st : List Int → List Sl := fun r => [.im (.int 3), .im (.str txtE), .im (.lst (tmsE.map fun q => .tup [.int q.2.1, .int q.2.2])), .no, .mu (rowD r), .no, .no]
    refine r_forF (xs := tmsE) (g := fun q => .tup [.int q.2.1, .int q.2.2]) cg (it_list (v_var 2)) st setE [0, 0, 0, 0, 0, 0, 0] (.eq (.eq (.eq (.no (.eq (.no (.no .nil))))))) (fun m q hq => ⟨tg_tup cg (tp_cons 5 cg (tp_cons 6 cg tp_nil)), ?_⟩) ?_
    · have hm := tms_ok q (List.mem_of_getElem? hq)
      generalize hr : (tmsE.take m).foldl setE [0, 0, 0, 0, 0, 0, 0] = r
      have lr : r.length = 7 := by rw [← hr, setE_len]; rfl
      refine r_put 4 (R := is_ (.int (q.2.1 % 3))) (v_mod (by decide) (v_var 5) (v_var 0)) (v_var 6) rfl (ixN_nat (m := q.2.2.toNat) (by omega) (by rw [row_len]; omega)) fun d hd => r_nil ?_
      cases hd
      rw [row_set]
      exact .eq (.eq (.eq (.no (.eq (.no (.no .nil))))))
    · refine r_freeze 4 rfl (r_ret (v_fn cg (p_poly_row T) (d_poly_row T) (g_poly_row T) (a_d (v_var 4) a_nil) ⟨tmsE.foldl setE [0, 0, 0, 0, 0, 0, 0], rfl, by decide +kernel, ?_⟩))
      rw [show trimI (tmsE.foldl setE [0, 0, 0, 0, 0, 0, 0]) = rowE by decide +kernel]
      exact hR
instance pc3 : PC 3 := ⟨.inl rfl⟩
def fE : Pol 3 := ⟨rowE, ⟨fun x hx => by
  simp only [List.mem_cons, List.not_mem_nil, or_false] at hx
  omega, by decide⟩⟩
theorem p_Poly_read (T : Tr K mg) : FnA P w K mg base 7 (rdA K "Poly") (fun ds R => ds = [.val (.ref (He.ga K "Poly")), .int 3, .str txtE] ∧ R (.poly 3 rowE)) :=
  fn_ok (N := ["cls", "prime", "text", "row"]) (ps := ["cls", "prime", "text"]) T.d_Poly (sc_of (by decide +kernel)) (fun _ _ _ _ _ _ us hl => match us, hl with | [_, _, _], _ => rfl) (fun _ _ ⟨e, _⟩ => e ▸ rfl) fun X cg hf ds R ⟨ed, hR⟩ => by
    subst ed
    have T := T.tx
    have bf := T.bf
    have hw : Wf 3 rowE := wfA fE
    refine r_expr (R := fun _ => True) (v_fn cg (p_require_prime T) (d_require_prime T) (g_require_prime T) (a_d (v_var 1) a_nil) ⟨3, rfl, .inl rfl, trivial⟩) ?_
    refine r_setD (d := .tup (rowD rowE)) 3 cg (v_ifExp (k := true) (t_w ((w_and (k := true) (m := true) (t_val (v_it cg (kb_str_str T) (v_var 2))) fun _ => w_and1 ((t_le (v_lenS (s := txtE) (by decide +kernel) (v_var 2)) (v_gi cg (g_MOST_SIGNS T))).is (by decide +kernel))).is rfl)) (fun _ => v_fn cg (p_poly_row_in T) (d_poly_row_in T) (g_poly_row_in T) (a_d (v_var 1) (a_d (v_var 2) a_nil)) ⟨rfl, rfl⟩) fun h => nomatch h) ?_
    refine r_if (k := false) ((t_w (w_or (k := false) (m := false) (t_isN (v_var 3) false (fun d M H v ed r => by
      cases ed
      obtain ⟨a, xs, h1, _⟩ := rep_tup.mp r
      rw [h1]
      rfl)) fun _ => w_or (k := false) (m := false) ((t_gt (v_len .t (v_var 3)) (v_gi cg (g_MAX_ENTRIES T))).is (by decide +kernel)) fun _ => w_or1 ((t_neS (s := textR rowE) (v_fn cg (p_poly_text T) (d_poly_text T) (g_poly_text T) (a_d (v_var 3) a_nil) ⟨rowE, rfl, hw.ress.up (by decide), by decide, rfl⟩) (v_var 2)).is (by decide +kernel)))).is rfl) (fun h => nomatch h) fun _ => r_nil ?_
    exact r_retD (v_newV 0 cg (mk_Poly T) (p_Poly_init T) (by decide) (a_d (v_var 1) (a_d (v_var 3) a_nil)) (fun ds e => ⟨fun fs => fs = fP 3 rowE, ⟨3, rowE, .inr ⟨e, by decide⟩, hw, rfl⟩, fun fs ef => ⟨⟨.tup (rowD rowE), by rw [show fs = fP 3 rowE from ef]; rfl⟩, _, rfl, by
      rw [show fs = fP 3 rowE from ef]
      exact seal_poly hw (textR_len (hw.ress.up (by decide)) (by decide))⟩⟩) (v_var 0)) hR
theorem p_Curve_read (T : Tr K mg) : FnA P w K mg base 17 (rdA K "Curve") (fun ds R => ds = [.val (.ref (He.ga K "Curve")), .int 3, .str txtE] ∧ Two 3 rowE ∧ freeP 3 rowE = true ∧ R (.curve 3 rowE)) :=
  fn_ok (N := ["cls", "prime", "text"]) (ps := ["cls", "prime", "text"]) T.d_Curve (sc_of (by decide +kernel)) (fun _ _ _ _ _ _ us hl => match us, hl with | [_, _, _], _ => rfl) (fun _ _ ⟨e, _⟩ => e ▸ rfl) fun X cg hf ds R ⟨ed, ht, hfr, hR⟩ => by
    subst ed
    have T2 := T
    have T := T.tx
    have bf := T.bf
    have hw : Wf 3 rowE := wfA fE
    exact r_retD (v_newV 0 cg (mk_Curve T) (p_Curve_init T) (by decide) (a_d (v_cmeth cg T2.cr_Poly T2.cm_Poly (p_Poly_read T2) (by decide) (v_gr cg (g_Poly T)) (a_d (v_var 1) (a_d (v_var 2) a_nil)) fun ds e => ⟨by rw [e], rfl⟩) a_nil) (fun ds e => ⟨fun fs => ∃ l t, t.length ≤ 1000 ∧ fs = fC 3 rowE l t, ⟨3, rowE, e, hw, ht, by decide, by decide, hfr, fun l t htl => ⟨l, t, htl, rfl⟩⟩, fun fs ⟨l, t, htl, ef⟩ => ⟨⟨.poly 3 rowE, by rw [ef]; rfl⟩, _, rfl, by
      rw [ef]
      exact seal_curve (by decide) (by decide) htl ht⟩⟩) (v_var 0)) hR
end
end DL

namespace DL
open PySem PySem.Spec PyProof.Rows L2
/-! ### the written curve -/
theorem freeE : freeP 3 rowE = true := by decide +kernel
theorem twoE : Two 3 rowE := ⟨by decide, by decide +kernel⟩
theorem cdE : CD 3 fE 3 1 := ⟨.inr (.inr rfl), rfl, by decide, by decide +kernel, twoE, by decide +kernel, fun P => free_nosq (f := fE) (show free0 3 rowE by unfold free0; decide +kernel) (by decide) P⟩
theorem crE : CR 3 fE (rootS fE 3 1 cdE.hs) 3 1 1 := ⟨cdE, rfl, ⟨by decide, by show (sQ fE (rootS fE 3 1 cdE.hs) 1).r.length = 1; decide +kernel, fun i h1 h2 => absurd h2 (by omega), by decide +kernel⟩⟩
section
variable {p : Int} [hp : PC p] {f S : Pol p} {m : Nat}
theorem scP_one (q : Pol p × Pol p) : scP 1 q = q := by
  show (Pol.C p 1 * q.1, Pol.C p 1 * q.2) = q
  have h1 : Pol.C p 1 * q.1 = q.1 := by rw [Pol.C1]; grind
  have h2 : Pol.C p 1 * q.2 = q.2 := by rw [Pol.C1]; grind
  rw [h1, h2]
theorem mdU_one : mdU f S m 1 = unitP f S m := by
  show prP f (1, 0) (unitP f S m) = unitP f S m
  generalize unitP f S m = q
  have h1 : (1 : Pol p) * q.1 + f * (0 * q.2) = q.1 := by grind
  have h2 : (1 : Pol p) * q.2 + 0 * q.1 = q.2 := by grind
  show ((1 : Pol p) * q.1 + f * (0 * q.2), (1 : Pol p) * q.2 + 0 * q.1) = q
  rw [h1, h2]
end
end DL

namespace DL
open PySem PySem.Spec PyProof.Rows L2
section
variable {P : Program} {w : World} {K : PySem.W.Frag} {mg : Str → Option Value} {base : Heap}
theorem x_eqF (T : Tx K mg) {X : Cx} {δ : List Sl} {e1 e2 : Expr} {pos : Pos} {k : Nat} {N : List Str} {sc : Scope} {p : Int} {f a b c : List Int} (cg : Cg P w K mg base k N sc X) (ha : EvD X δ e1 (.fn p f a b c)) (hb : EvD X δ e2 (.fn p f a b c)) (hn : 4 ≤ k := by decide) : EvD X δ (.Compare e1 [.Eq] [e2] pos) (.bl true) :=
  v_eqO (q := true) cg (mm_Function___eq__ T).at_ (mm_Function___eq__ T).fn (nf_Function T) (p_Function_eq T) hn i_fn i_fn ha hb ⟨p, f, a, b, c, a, b, c, rfl, by rw [decide_eq_true rfl, decide_eq_true rfl, decide_eq_true rfl]; rfl⟩
theorem p_law (T2 : Tr K mg) : FnG P w K mg base 23 (He.ga K "law") (fun ds R => ∃ ns : List Int, ds = [.scr ns] ∧ R (.bl true)) :=
  fnG_ok (N := ["_law_script", "_law_spot", "_law_even"]) (ps := ["_law_script"]) (d_law T2.tx) (sc_of (by decide +kernel)) (fun _ _ _ _ _ _ us hl => match us, hl with | [_], _ => rfl) (fun _ _ ⟨_, e, _⟩ => e ▸ rfl) fun X cg hf hgd ds R ⟨ns, ed, hR⟩ => by
    subst ed
    have T := T2.tx
    have bf := T.bf
    obtain ⟨z, hz, z0, z1⟩ : ∃ z : Int, (if (if ((rowD ns).length : Int) < 2 then ((rowD ns).length : Int) else 2) > 1 then (if ((rowD ns).length : Int) < 2 then ((rowD ns).length : Int) else 2) else 1) = z ∧ 0 ≤ z ∧ z ≤ 2 := ⟨_, rfl, by repeat' split <;> omega, by repeat' split <;> omega⟩
    refine r_for cg (it_range1 (j := z) ((v_max2 (i := 1) (j := if ((rowD ns).length : Int) < 2 then ((rowD ns).length : Int) else 2) cg v_int (v_min2 (i := 2) (j := ((rowD ns).length : Int)) cg v_int (v_len .s (v_var 0)))).is (by rw [hz])) (range62 z0 (by omega))) (fun _ δ' => ∃ z1 z2, δ' = [.im (.scr ns), z1, z2]) ⟨_, _, rfl⟩ (fun k d δ' hd hI => ?_) fun δ' hδ => ?_
    · obtain ⟨z1', z2', e⟩ := hI
      subst e
      have hk := (List.getElem?_eq_some_iff.mp hd).1
      rw [row_len, rangeD_len] at hk
      have ek : d = .int (k : Nat) := by
        rw [List.getElem?_map, rangeD_get hk] at hd
        cases hd
        rw [show (0 : Int) + (k : Int) * 1 = (k : Nat) by omega]
      subst ek
      refine ⟨[1], _, tg_name 1 cg, ?_⟩
      refine r_if (k := false) ((t_not (t_val (k := true) (v_callG cg hgd (p_law_right T) (by decide) (g__law_right T) (kp_of (d__law_right T)) (a_d (v_fn cg (p_law_dice T) (d__law_dice T) (g__law_dice T) (a_d (v_var 0) (a_d (v_var 1) a_nil)) ⟨ns, k, rfl, by omega, rfl⟩) a_nil) fun ds e => ⟨e, rfl⟩))).is rfl) (fun h => nomatch h) fun _ => r_nil (r_nil ⟨_, _, rfl⟩)
    · obtain ⟨z1', z2', e⟩ := hδ
      subst e
      refine r_setD (d := .curve 3 rowE) 2 cg (v_cmeth cg T2.cr_Curve T2.cm_Curve (p_Curve_read T2) (by decide) (v_gr cg (g_Curve T)) (a_d v_int (a_d v_str a_nil)) fun ds e => ⟨by rw [e], twoE, freeE, rfl⟩) ?_
      have h := crE
      generalize hS : rootS fE 3 1 cdE.hs = S at h
      have l3 := h.rd.ln
      have sc := scU h (-2) (c := 1) (by decide) (by decide)
      rw [scP_one] at sc
      have ml := mdU_lens h (-2)
      refine r_retD ((v_and (k := true) (m := true) ((v_eqT (r1 := [1, -2]) (r2 := [1, -2]) cg (v_fn cg (p_unit_parts T) (d_unit_parts T) (g_unit_parts T) (a_d (v_var 2) (a_d (d := .fn 3 rowE (mdU fE S 1 (-2)).1.r (mdU fE S 1 (-2)).2.r (1 : Pol 3).r) (v_fn cg (p_unit_power T) (d_unit_power T) (g_unit_power T) (a_d (v_var 2) (a_d (v_neg v_int) a_nil)) ⟨3, pc3, fE, S, 3, 1, 1, -2, rfl, h, by decide, by show 2 * ln fE S 1 ≤ 500; omega, rfl⟩) a_nil)) ⟨3, pc3, fE, S, 3, 1, 1, (mdU fE S 1 (-2)).1, (mdU fE S 1 (-2)).2, rfl, h, ?_, ?_, sc.nm, sc.ex, by rw [sc.pt]; rfl⟩) (v_tupD (a_d v_int (a_d (v_neg v_int) a_nil)))).is (by rw [decide_eq_true rfl])) fun _ => v_one (x_eqF T cg (v_fn cg (p_unit_power T) (d_unit_power T) (g_unit_power T) (a_d (v_var 2) (a_d v_int a_nil)) ⟨3, pc3, fE, S, 3, 1, 1, 1, rfl, h, by decide, by show 1 * ln fE S 1 ≤ 500; omega, rfl⟩) (v_fn cg (p_least_unit T) (d_least_unit T) (g_least_unit T) (a_d (v_var 2) a_nil) ⟨3, pc3, fE, S, 3, 1, 1, rfl, h, by rw [mdU_one]⟩))).is rfl) hR
      · have e := ml.1
        have : (-2 : Int).natAbs = 2 := rfl
        rw [this] at e
        omega
      · have e := ml.2
        have : (-2 : Int).natAbs = 2 := rfl
        rw [this] at e
        omega
end
end DL

namespace DL
open PySem PySem.Spec PyProof.Rows L2
/-! ### the law's call -/
theorem law_run {P : Program} {w : World} {K : PySem.W.Frag} {mg mb : Str → Option Value} {k : Nat} {fa a : Addr} {S : Sd} {s1 : Shared} {us : List Value} {ns : List Int}
    (hK : K.In s1.heap) (gns : s1.heap.Ns mainGlobals mg) (bns : s1.heap.Ns builtinsNs mb) (bb : ∀ x : Str, x ≠ "__name__" → mb x = bootBuiltins x) (lim : s1.heap.NoLimit) (gen : s1.gens = #[])
    (ho : s1.heap.get? a = some { cls := .type "list", data := .seq us.toArray }) (hi : IntsAre us ns) (hl : ns.length ≤ sizeLine) (room : Room k callerA)
    (F : ∀ base : Heap, K.In base → base.Ns mainGlobals mg → FnG P w K mg base k fa S) (hS : S [.scr ns] fun d => d = .bl true) :
    codeAny (model P w) callerA (.call (.ref fa) ⟨[.ref a], []⟩) (fun res t => res = .ok (.ret (.bool true)) ∧ OldK s1.heap t.heap ∧ t.os = s1.os ∧ AllBare t.gens) s1 := by
  have vals := vals_ints hi
  have len := hi.length
  have inner : ∀ G : Hp, Only G → SqL K G a (ns.map V.int) → HOk P w G s1.heap → (∀ z, G z ≠ none → z = a) → (G a ≠ none → K.lookup a = none) →
      codeAny (model P w) callerA (.call (.ref fa) ⟨[.ref a], []⟩) (fun res t => res = .ok (.ret (.bool true)) ∧ OldK s1.heap t.heap ∧ t.os = s1.os ∧ AllBare t.gens) s1 := by
    intro G only sq ok one apart
    have low : ∀ {z : Addr} {u : Obj}, s1.heap.get? z = some u → G z = none → (hidT s1.heap G).get? z = some u := fun q n => hidT_get q n
    have noD : ∀ {z : Addr} {u : Obj} {es : Array DictEntry} {m : Nat}, s1.heap.get? z = some u → u.data = .dict es m → G z = none := fun {z u es m} q hd => by
      cases y : G z with
      | none => rfl
      | some h =>
        have ez : z = a := one z (by rw [y]; simp)
        subst ez
        rw [ho] at q
        cases q
        have hd2 : Data.seq us.toArray _ = Data.dict es m := hd
        cases hd2
    have nsB : ∀ {z : Addr} {m : Str → Option Value}, s1.heap.Ns z m → (hidT s1.heap G).Ns z m := fun {z m} ⟨u, es, e2, q, hd, r⟩ => ⟨u, es, e2, low q (noD q hd), hd, r⟩
    have kB : K.In (hidT s1.heap G) := fun z u q => low (hK z u q) (by
      cases y : G z with
      | none => rfl
      | some h =>
        have ez : z = a := one z (by rw [y]; simp)
        subst ez
        rw [apart (by rw [y]; simp)] at q
        cases q)
    have mo : Mod K mg (hidT s1.heap G) := ⟨kB, nsB gns, ⟨mb, nsB bns, bb⟩, let ⟨mc, q1, q2⟩ := lim; ⟨mc, nsB q1, q2⟩⟩
    have env : Env0 P w K mg (hidT s1.heap G) callerA [] s1 G := ⟨rfl, mo, fun z u q => of_hidT q, Nat.le_of_eq (hidT_size _ _), trivial, fun z hz => absurd (show z ∈ ([] : List Addr) from hz) (by simp), ok, .of_eq gen⟩
    have pr : spD K S [.ref a] G (fun v _ => v = .bl true) fun _ _ _ => False := ⟨[], [.scr ns], _, fun l hl => absurd hl List.not_mem_nil, reps_mk (rep_scr.mpr ⟨a, rfl, by
      have : hid [] G = G := by
        funext z
        exact hid_at List.not_mem_nil
      rw [this]
      exact sq⟩) (reps_nil.mpr rfl), hS, fun d v G2 rd e2 r => by
      subst rd
      exact rep_bl.mp r⟩
    refine codeAny_mono (F _ kB (nsB gns) callerA [] s1 G [.ref a] [.ref a] _ _ rfl room env (.cons rfl .nil) pr) fun res t q => ?_
    cases res with
    | error x => exact q.elim
    | ok fl =>
      cases fl with
      | next => exact q.elim
      | brk => exact q.elim
      | cont => exact q.elim
      | ret u =>
        obtain ⟨v, G2, os, bare, un, ok2, rv, ev⟩ := q
        have ev2 : v = .bl true := ev
        subst ev2
        obtain rfl : u = Value.bool true := rv
        refine ⟨rfl, OldK.of_keep fun z o q => ?_, os, bare⟩
        cases y : G z with
        | none => exact un.keep z o q y (by intro n; exact absurd (show z ∈ ([] : List Addr) from n) (by simp)) (by simp)
        | some h =>
          rcases only z with n | ⟨ob, xs, n⟩
          · rw [y] at n
            cases n
          · obtain ⟨q1, _⟩ := ok z _ n
            obtain ⟨q2, _⟩ := ok2 z _ (un.frzs z ob _ n)
            rw [q] at q1
            cases q1
            exact q2
  cases y : K.lookup a with
  | some u =>
    have q := hK a u y
    rw [ho] at q
    cases q
    exact inner (fun _ => none) (fun _ => .inl rfl) (.inr ⟨_, us.toArray, _, y, rfl, rfl, rfl, by rw [List.size_toArray, len]; exact hl, by simpa using vals⟩) (fun z h n => by have n2 : (none : Option HO) = some h := n; cases n2) (fun z n => absurd rfl n) fun n => absurd rfl n
  | none =>
    refine inner (fun z => if z = a then some (.frz { cls := .type "list", data := .seq us.toArray } (.lst (ns.map V.int))) else none) (fun z => ?_) (.inl (.inr ⟨{ cls := .type "list", data := .seq us.toArray }, if_pos rfl⟩)) (fun z h n => ?_) (fun z n => ?_) fun _ => y
    · by_cases hz : z = a
      · exact .inr ⟨_, _, if_pos hz⟩
      · exact .inl (if_neg hz)
    · by_cases hz : z = a
      · have n2 := (if_pos hz).symm.trans n
        cases n2
        subst hz
        exact ⟨ho, by rw [List.length_map]; exact hl, us, _, vals, ho⟩
      · have n2 := (if_neg hz).symm.trans n
        cases n2
    · by_cases hz : z = a
      · exact hz
      · exact absurd (if_neg hz) n
theorem law_walk {l : PySem.W.OpenLaw} {n : Nat} {q : Program} {loose : List Str} {XP : (Str → Option Value) → Heap → Prop} {YP : World → Heap → Prop} {d : DefRec} (hn : l.most = some n) (hn2 : n ≤ sizeLine) (hdf : d.params.defaults = [])
    (F : ∀ (w : World) (mg : Str → Option Value) (h : Heap), YP w h → h.Ns mainGlobals mg → ∃ K : PySem.W.Frag, K.In h ∧ Tr K mg) (hd : d.name = ("law" : Str)) :
    PySem.W.WalkO q loose XP YP l.row.toRowW d [] (fun f vs => PySem.call f vs) := by
  refine Att.attach_call hn hdf fun w s0 s1 mg mb fa o pm cd doc a vs ns G Y ho hd2 hcd hmg hobj hints hlen hg => ?_
  obtain ⟨K, KX, T⟩ := F w mg _ Y G.T.g
  have e : fa = He.ga K "law" := by
    rw [hd] at hmg
    have := hmg.symm.trans T.g_law
    cases this
    rfl
  subst e
  exact law_run KX G.T.g G.T.b G.T.builtins G.T.nolimit hg hobj hints (Nat.le_trans hlen hn2) (k := 23) ⟨rfl, by decide +kernel, by decide +kernel⟩ (fun base _ _ => p_law T) ⟨ns, rfl, rfl⟩
end DL

set_option maxHeartbeats 0
open PySem PySem.W PySem.Calls PyProof.Rows
theorem PySem.Challenge.cw_twinsheets_k79_whole_units_are_powers_holds : PySem.Challenge.rw_twinsheets_k79_whole_units_are_powers.Holds := by
  w_on; o_law
  refine HandSHeadRun.head_any (r := DL.Rw) (q := DL.qw) (H := DL.hookX) (ob := DL.obX) (M := 20000) (loose := DL.nmsA) (d := HandSHeadRun.topDef DL.Rw.prog 132) (kwd := []) DL.obX_eq
    (by kernel_rfl) (fun s => by kernel_rfl) DL.runX (by kernel_rfl) (by kernel_rfl) (by kernel_rfl) (by rfl) (by first | assumption | decide +kernel) (by decide +kernel) ⟨rfl, rfl, rfl, rfl, rfl, by decide +kernel⟩ ?hw ?hc
  case hw => w_witness2
  case hc =>
    exact DL.law_walk (l := PySem.Challenge.rw_twinsheets_k79_whole_units_are_powers) (n := 63) rfl (by decide) (by kernel_rfl) (fun w mg h Y G => by
      obtain ⟨K, KX, c⟩ := Y
      exact ⟨K, KX, DL.tr_of KX G c⟩) (by kernel_rfl)

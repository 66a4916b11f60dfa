import PyProof.Rows.All
import Wide.All
import OpenK.AllK
import Wide.FinOn
import KE.KStateDown
import KE.DataMinMax
import KE.SortData
import Lean
import HandS.Base
import HandS.Call
import HandS.List
import HandS.Comp
import HandS.Dict
import HandS.Iter
import HandS.Ends
import HandS.Exc
import HandS.More
import HandS.Words
import HandS.WordsList
import HandS.WordsDict
import HandS.WordsExc
import HandS.Defaults
import HandS.Deep
import HandS.Property
import HandS.OwnEq
import HandS.Zip
import HandS.Style
import HandS.Conv
import HandS.Flow
import HandS.IsInst
import HandS.Walk
import HandS.Text
import HandS.Head0
import HandS.Head1
import HandS.Head2
import HandS.HeadEnd
import HandS.HeadHook1
import HandS.HeadHook2
import KE.GoesEnum
import KE.GoesMore
import KE.GoesZip
import HandS.DictComp
import PySem.Challenge.RW_formworld_k41_whole_classes_giving_a_num
set_option Elab.async false
set_option linter.all false
set_option maxRecDepth 100000
set_option maxHeartbeats 4000000
namespace G41
open PySem PySem.Spec PyProof.Rows L2
/-! ### the text by places -/
def top (i : Nat) : Stmt := PySem.Challenge.pw_formworld_k41_whole_classes_giving_a_num.main.body.getD i (.Pass ⟨0, 0, 0, 0⟩)

abbrev FnP (K : PySem.W.Frag) (x : Str) (st : Stmt) (f : Addr) (fd : FuncData) : Prop := FunD K x x (defArgs st) (defBody st) (defScope st) [] [] f fd
/-- a def that callers may call by its name -/
structure Cal (P : Program) (w : World) (K : PySem.W.Frag) (mg : Str → Option Value) (base : Heap) (k : Nat) (x : Str) (ps : List Str) (sp : Sp) : Prop where
  ex : ∃ f fd, FnOk P w K mg base CX0 k f fd ps sp ∧ mg x = some (.ref f) ∧ PySem.W.keepIn K (.ref f) = true ∧ Binds K fd ps []
section
variable {X : Cx} {k j : Nat} {x : Str} {ps : List Str} {sp : Sp} {p pos : Pos} {e : Expr} {es : List Expr} {t : TA}
theorem pe_cal (C : Cal X.prog X.w X.K X.mg X.base k x ps sp) (hr : Room j X.A) (ha : PA X (e :: es) t) (hj : k ≤ j := by decide) (hg : Gl X x := by rfl)
    (hdb : (x == ("__debug__" : Str)) = false := by decide) (he : starEach (e :: es) X.env = (false, eval e X.env) :: starEach es X.env := by rfl)
    (hpl : (backTo pos (starEach es X.env)).any (·.1) = false := by rfl) : PE X (.Call (.Name x p) (e :: es) [] pos) (tCall sp [] E0 t) := by
  obtain ⟨f, fd, F, m, kp, b⟩ := C.ex
  exact pe_call F (hr.mono hj) hg m kp b .nil pass0 ha hdb he hpl
theorem pe_gi {i : Int} (h : ∃ t, X.mg x = some (.int i t)) (hg : Gl X x := by rfl) (hd : (x == ("__debug__" : Str)) = false := by decide) : PE X (.Name x p) (tC (.int i)) := by
  obtain ⟨t, h⟩ := h
  exact pe_glob hg h ⟨t, rfl⟩ hd
end
/-- what the module's names hold -/
structure Tx (K : PySem.W.Frag) (mg : Str → Option Value) : Prop where
  b_abs : mg "abs" = none
  b_len : mg "len" = none
  b_range : mg "range" = none
  b_list : mg "list" = none
  b_tuple : mg "tuple" = none
  b_int : mg "int" = none
  b_bool : mg "bool" = none
  b_str : mg "str" = none
  b_isinstance : mg "isinstance" = none
  b_sorted : mg "sorted" = none
  b_min : mg "min" = none
  b_max : mg "max" = none
  b_sum : mg "sum" = none
  b_all : mg "all" = none
  b_zip : mg "zip" = none
  b_enumerate : mg "enumerate" = none
  b_divmod : mg "divmod" = none
  g_size : ∃ t, mg "MOST_SIZE" = some (.int 1000000000000 t)
  g_least : ∃ t, mg "LEAST_DISCRIMINANT" = some (.int (-100000) t)
  g_most : ∃ t, mg "MOST_DISCRIMINANT" = some (.int 1000 t)
  g_number : ∃ t, mg "MOST_NUMBER" = some (.int 1000 t)

/-! ### tests read -/
theorem iteD {p A B : Prop} [Decidable p] (h1 : p → A) (h2 : ¬ p → B) : if decide p = true then A else B := by
  by_cases h : p
  · rw [if_pos (decide_eq_true h)]; exact h1 h
  · rw [if_neg (by simp [h])]; exact h2 h
theorem iteE {x y : Int} {A B : Prop} (h1 : x = y → A) (h2 : x ≠ y → B) : if decide (V.int x = V.int y) = true then A else B := by
  by_cases h : x = y
  · subst h; rw [if_pos (by simp)]; exact h1 rfl
  · rw [if_neg (by simp [h])]; exact h2 h
theorem iteN {x y : Int} {A B : Prop} (h1 : x ≠ y → A) (h2 : x = y → B) : if (!decide (V.int x = V.int y)) = true then A else B := by
  by_cases h : x = y
  · subst h; rw [if_neg (by simp)]; exact h2 rfl
  · rw [if_pos (by simp [h])]; exact h1 h
theorem iteB {b : Bool} {A B : Prop} (h1 : b = true → A) (h2 : b = false → B) : if b = true then A else B := by
  cases b with
  | true => exact iteT (h1 rfl)
  | false => exact iteF (h2 rfl)
theorem same_new {H : Hp} {p : Addr} {o : HO} (h : H p = none) : Same H (upd H p o) := fun a u e => by
  rw [upd_ne (ne_of_none e h)]
  exact e
/-- an object that H does not know may change -/
theorem same_mut {H H' : Hp} {p : Addr} {o : HO} (e : Same H H') (h : H p = none) : Same H (upd H' p o) := fun a u ha => by
  rw [upd_ne (ne_of_none ha h)]
  exact e a u ha
theorem same_tup {K : PySem.W.Frag} {H H' : Hp} {a : Addr} {xs : List V} (e : Same H H') (h : SqT K H a xs) : SqT K H' a xs := by
  rcases h with (h | ⟨o, h⟩) | h
  · exact .inl (.inl (e _ _ h))
  · exact .inl (.inr ⟨o, e _ _ h⟩)
  · exact .inr h
end G41
set_option Elab.async false
set_option linter.all false
set_option maxRecDepth 100000
set_option maxHeartbeats 4000000
namespace G41
open PySem PySem.Spec PyProof.Rows L2
/-! the head's facts: defs, names, the class, its two properties, the dict of sizes -/
def hfn0 : List He.DefD := [⟨("common_divisor", none), "common_divisor", "common_divisor", defArgs (top 22), defBody (top 22), defScope (top 22), [], []⟩,
  ⟨("common_of", none), "common_of", "common_of", defArgs (top 23), defBody (top 23), defScope (top 23), [], []⟩,
  ⟨("root_of", none), "root_of", "root_of", defArgs (top 24), defBody (top 24), defScope (top 24), [], []⟩,
  ⟨("is_square", none), "is_square", "is_square", defArgs (top 25), defBody (top 25), defScope (top 25), [], []⟩,
  ⟨("divisors_of", none), "divisors_of", "divisors_of", defArgs (top 26), defBody (top 26), defScope (top 26), [], []⟩,
  ⟨("unit_table", none), "unit_table", "unit_table", defArgs (top 28), defBody (top 28), defScope (top 28), [], []⟩,
  ⟨("turned", none), "turned", "turned", defArgs (top 30), defBody (top 30), defScope (top 30), [], []⟩,
  ⟨("joined_tables", none), "joined_tables", "joined_tables", defArgs (top 31), defBody (top 31), defScope (top 31), [], []⟩,
  ⟨("is_integer", none), "is_integer", "is_integer", defArgs (top 12), defBody (top 12), defScope (top 12), [], []⟩,
  ⟨("lessened", none), "lessened", "lessened", defArgs (top 33), defBody (top 33), defScope (top 33), [], []⟩,
  ⟨("fraction", none), "fraction", "fraction", defArgs (top 34), defBody (top 34), defScope (top 34), [], []⟩,
  ⟨("exchanged", none), "exchanged", "exchanged", defArgs (top 38), defBody (top 38), defScope (top 38), [], []⟩]
def hfn1 : List He.DefD := [⟨("with_lead", none), "with_lead", "with_lead", defArgs (top 37), defBody (top 37), defScope (top 37), [], []⟩,
  ⟨("behind", none), "behind", "behind", defArgs (top 36), defBody (top 36), defScope (top 36), [], []⟩,
  ⟨("diagonal", none), "diagonal", "diagonal", defArgs (top 35), defBody (top 35), defScope (top 35), [], []⟩,
  ⟨("kind_for", none), "kind_for", "kind_for", defArgs (top 51), defBody (top 51), defScope (top 51), [], []⟩,
  ⟨("is_between", none), "is_between", "is_between", defArgs (top 13), defBody (top 13), defScope (top 13), [], []⟩,
  ⟨("pairs_of", none), "pairs_of", "pairs_of", defArgs (top 44), defBody (top 44), defScope (top 44), [], []⟩,
  ⟨("table_for", none), "table_for", "table_for", defArgs (top 45), defBody (top 45), defScope (top 45), [], []⟩,
  ⟨("check_coefficients", none), "check_coefficients", "check_coefficients", defArgs (top 47), defBody (top 47), defScope (top 47), [], []⟩,
  ⟨("determinant", none), "determinant", "determinant", defArgs (top 32), defBody (top 32), defScope (top 32), [], []⟩,
  ⟨("signature_for", none), "signature_for", "signature_for", defArgs (top 50), defBody (top 50), defScope (top 50), [], []⟩,
  ⟨("discriminant_for", none), "discriminant_for", "discriminant_for", defArgs (top 55), defBody (top 55), defScope (top 55), [], []⟩,
  ⟨("is_reduced_form", none), "is_reduced_form", "is_reduced_form", defArgs (top 56), defBody (top 56), defScope (top 56), [], []⟩]
def hfn2 : List He.DefD := [⟨("is_discriminant", none), "is_discriminant", "is_discriminant", defArgs (top 54), defBody (top 54), defScope (top 54), [], []⟩,
  ⟨("check_discriminant", none), "check_discriminant", "check_discriminant", defArgs (top 63), defBody (top 63), defScope (top 63), [], []⟩,
  ⟨("stepped", none), "stepped", "stepped", defArgs (top 57), defBody (top 57), defScope (top 57), [], []⟩,
  ⟨("reduced_with", none), "reduced_with", "reduced_with", defArgs (top 58), defBody (top 58), defScope (top 58), [], []⟩,
  ⟨("ring_from", none), "ring_from", "ring_from", defArgs (top 59), defBody (top 59), defScope (top 59), [], []⟩,
  ⟨("ring_of", none), "ring_of", "ring_of", defArgs (top 60), defBody (top 60), defScope (top 60), [], []⟩,
  ⟨("lead_of", none), "lead_of", "lead_of", defArgs (top 61), defBody (top 61), defScope (top 61), [], []⟩,
  ⟨("forms_with", none), "forms_with", "forms_with", defArgs (top 66), defBody (top 66), defScope (top 66), [], []⟩,
  ⟨("classes_giving", none), "classes_giving", "classes_giving", defArgs (top 68), defBody (top 68), defScope (top 68), [], []⟩,
  ⟨("reduced_forms", none), "reduced_forms", "reduced_forms", defArgs (top 64), defBody (top 64), defScope (top 64), [.bl false], []⟩,
  ⟨("class_list", none), "class_list", "class_list", defArgs (top 65), defBody (top 65), defScope (top 65), [], []⟩,
  ⟨("classes", none), "classes", "classes", defArgs (top 67), defBody (top 67), defScope (top 67), [], []⟩]
def hfn3 : List He.DefD := [⟨("_law_d", none), "_law_d", "_law_d", defArgs (top 70), defBody (top 70), defScope (top 70), [], []⟩,
  ⟨("_law_root", none), "_law_root", "_law_root", defArgs (top 71), defBody (top 71), defScope (top 71), [], []⟩,
  ⟨("_law_gcd", none), "_law_gcd", "_law_gcd", defArgs (top 72), defBody (top 72), defScope (top 72), [], []⟩,
  ⟨("_law_places", none), "_law_places", "_law_places", defArgs (top 73), defBody (top 73), defScope (top 73), [], []⟩,
  ⟨("_law_value", none), "_law_value", "_law_value", defArgs (top 74), defBody (top 74), defScope (top 74), [], []⟩,
  ⟨("_law_dip", none), "_law_dip", "_law_dip", defArgs (top 75), defBody (top 75), defScope (top 75), [], []⟩,
  ⟨("_law_is_discriminant", none), "_law_is_discriminant", "_law_is_discriminant", defArgs (top 76), defBody (top 76), defScope (top 76), [], []⟩,
  ⟨("_law_whole", none), "_law_whole", "_law_whole", defArgs (top 77), defBody (top 77), defScope (top 77), [], []⟩,
  ⟨("_law_reduced", none), "_law_reduced", "_law_reduced", defArgs (top 78), defBody (top 78), defScope (top 78), [], []⟩,
  ⟨("_law_all_reduced", none), "_law_all_reduced", "_law_all_reduced", defArgs (top 79), defBody (top 79), defScope (top 79), [], []⟩,
  ⟨("_law_next", none), "_law_next", "_law_next", defArgs (top 80), defBody (top 80), defScope (top 80), [], []⟩,
  ⟨("_law_ring", none), "_law_ring", "_law_ring", defArgs (top 81), defBody (top 81), defScope (top 81), [], []⟩]
def hfn4 : List He.DefD := [⟨("_law_leads", none), "_law_leads", "_law_leads", defArgs (top 82), defBody (top 82), defScope (top 82), [], []⟩,
  ⟨("_law_one_of", none), "_law_one_of", "_law_one_of", defArgs (top 83), defBody (top 83), defScope (top 83), [], []⟩,
  ⟨("_law_jar", none), "_law_jar", "_law_jar", defArgs (top 84), defBody (top 84), defScope (top 84), [], []⟩,
  ⟨("_law_has", none), "_law_has", "_law_has", defArgs (top 85), defBody (top 85), defScope (top 85), [], []⟩,
  ⟨("_law_is_square_rest", none), "_law_is_square_rest", "_law_is_square_rest", defArgs (top 86), defBody (top 86), defScope (top 86), [], []⟩,
  ⟨("_law_right", none), "_law_right", "_law_right", defArgs (top 87), defBody (top 87), defScope (top 87), [], []⟩,
  ⟨("law", none), "law", "law", defArgs (top 88), defBody (top 88), defScope (top 88), [], []⟩,
  ⟨("Form", some "__init__"), "__init__", "Form.__init__", defArgs (inClass (top 52) 0), defBody (inClass (top 52) 0), defScope (inClass (top 52) 0), [], []⟩,
  ⟨("Form", some "__eq__"), "__eq__", "Form.__eq__", defArgs (inClass (top 52) 16), defBody (inClass (top 52) 16), defScope (inClass (top 52) 16), [], []⟩]
def hfn : List He.DefD := hfn0 ++ (hfn1 ++ (hfn2 ++ (hfn3 ++ (hfn4))))
def hpr0 : List He.DefD := [⟨("Form", some "coefficients"), "coefficients", "Form.coefficients", defArgs (inClass (top 52) 2), defBody (inClass (top 52) 2), defScope (inClass (top 52) 2), [], []⟩,
  ⟨("Form", some "content"), "content", "Form.content", defArgs (inClass (top 52) 8), defBody (inClass (top 52) 8), defScope (inClass (top 52) 8), [], []⟩]
def hpr : List He.DefD := hpr0
def hfa0 : List He.Fa := [.glo "common_divisor",
  .glo "common_of",
  .glo "root_of",
  .glo "is_square",
  .glo "divisors_of",
  .glo "unit_table",
  .glo "turned",
  .glo "joined_tables",
  .glo "is_integer",
  .glo "lessened",
  .glo "fraction",
  .glo "exchanged",
  .glo "with_lead",
  .glo "behind",
  .glo "diagonal",
  .glo "kind_for",
  .glo "is_between",
  .glo "pairs_of",
  .glo "table_for",
  .glo "check_coefficients"]
def hfa1 : List He.Fa := [.glo "determinant",
  .glo "signature_for",
  .glo "discriminant_for",
  .glo "is_reduced_form",
  .glo "is_discriminant",
  .glo "check_discriminant",
  .glo "stepped",
  .glo "reduced_with",
  .glo "ring_from",
  .glo "ring_of",
  .glo "lead_of",
  .glo "forms_with",
  .glo "classes_giving",
  .glo "reduced_forms",
  .glo "class_list",
  .glo "classes",
  .glo "_law_d",
  .glo "_law_root",
  .glo "_law_gcd",
  .glo "_law_places"]
def hfa2 : List He.Fa := [.glo "_law_value",
  .glo "_law_dip",
  .glo "_law_is_discriminant",
  .glo "_law_whole",
  .glo "_law_reduced",
  .glo "_law_all_reduced",
  .glo "_law_next",
  .glo "_law_ring",
  .glo "_law_leads",
  .glo "_law_one_of",
  .glo "_law_jar",
  .glo "_law_has",
  .glo "_law_is_square_rest",
  .glo "_law_right",
  .glo "law",
  .free "abs",
  .free "len",
  .free "range",
  .free "list",
  .free "tuple"]
def hfa3 : List He.Fa := [.free "int",
  .free "bool",
  .free "str",
  .free "isinstance",
  .free "sorted",
  .free "min",
  .free "max",
  .free "sum",
  .free "all",
  .free "zip",
  .free "enumerate",
  .free "divmod",
  .int "MOST_SIZE" (1000000000000),
  .int "LEAST_DISCRIMINANT" (-100000),
  .int "MOST_DISCRIMINANT" (1000),
  .int "MOST_NUMBER" (1000),
  .cls "Form",
  .glo "Form",
  .noat "Form" "held",
  .noat "Form" "words"]
def hfa4 : List He.Fa := [.meth "Form" "__eq__",
  .mkr "Form"]
def hfa : List He.Fa := hfa0 ++ (hfa1 ++ (hfa2 ++ (hfa3 ++ (hfa4))))
/-- the object a property stands in, and what it calls -/
def prO (K : PySem.W.Frag) (x : Str) : Addr := He.ma K (He.ga K "Form") x
def prG (K : PySem.W.Frag) (x : Str) : Addr := match PySem.W.recIn K (prO K x) "property" with
  | some (.ref g :: _) => g
  | _ => 0
def prB (K : PySem.W.Frag) (x : Str) : Bool := He.eqO (PySem.W.findIn K (.ref (He.ga K "Form")) x) (some (some (.ref (prO K x)))) && (He.eqO (PySem.W.specialIn K (.ref (prO K x)) "__get__") (some (some (.builtin "property.__get__"))) &&
  (decide (PySem.W.takesIn K (.ref (prO K x)) = some true) && (match PySem.W.recIn K (prO K x) "property" with
    | some (.ref g :: _) => decide (g = prG K x)
    | _ => false)))
def unkB (K : PySem.W.Frag) : Bool := match K.lookup (He.ga K "UNKNOWNS") with
  | some ⟨.type c, none, .dict es _, sl⟩ => decide (c = "dict") && (sl.isEmpty && ((es.toList.all fun e => match e.key with
      | .int k _ => decide (e.hash = hashInt k)
      | _ => false) && ((match findBy Value.isInt es 3 with
      | some (.int i _) => decide (i = 2)
      | _ => false) && !(He.ga K "UNKNOWNS" == sysModules))))
  | _ => false
def clsB (K : PySem.W.Frag) : Bool := He.eqO (PySem.W.findIn K (.ref (He.ga K "Form")) "__class__") (some (some (.builtin "object.__class__"))) && (He.eqO (PySem.W.specialIn K (.builtin "object.__class__") "__get__") (some (some (.builtin "getset_descriptor.__get__"))) &&
  (decide (PySem.W.takesIn K (.builtin "object.__class__") = some true) && (decide (PySem.W.mroIn K (He.ga K "Form") (.type "object") = some true) && He.eqO (PySem.W.findIn K (.ref (He.ga K "Form")) "__ne__") (some (some (.builtin "object.__ne__"))))))
def moreB (K : PySem.W.Frag) : Bool := clsB K && (unkB K && (He.eqO (PySem.W.nsIn K mainGlobals "UNKNOWNS") (some (some (.ref (He.ga K "UNKNOWNS")))) && (prB K "coefficients" && prB K "content")))
/-- the function at an address, as it is looked at -/
def seenAt (K : PySem.W.Frag) (a : Addr) : He.FnW := match K.lookup a with
  | some ⟨_, _, .func g, _⟩ => some (g.name, g.qualname, g.params, g.body, g.scope, g.globals, g.closure, g.builtins)
  | _ => none
def soundAt (K : PySem.W.Frag) (a : Addr) (d : He.DefD) : Bool := PySem.W.keepIn K (.ref a) && (match K.lookup a with
  | some ⟨_, _, .func g, _⟩ => PySem.W.codeIn K g.code d.qual && (He.dflB K g.defaults [] && He.kwdB K g.kwdefaults [])
  | _ => false)
theorem fun_at {K : PySem.W.Frag} {a : Addr} {d : He.DefD} (e : seenAt K a = d.val) (c : soundAt K a d = true) : ∃ fd, FunD K d.name d.qual d.params d.body d.scope [] [] a fd := by
  obtain ⟨kp, c1⟩ := He.ba c
  unfold seenAt at e
  split at e
  · rename_i o1 o2 g o3 hl
    rw [hl] at c1
    obtain ⟨c2, c3⟩ := He.ba c1
    obtain ⟨c4, c5⟩ := He.ba c3
    obtain ⟨g1, g2, g3, g4, g5, g6, g7, g8, g9, g10, g11, g12, g13, g14, g15⟩ := g
    unfold He.DefD.val at e
    simp only [Option.some.injEq, Prod.mk.injEq] at e
    obtain ⟨rfl, rfl, rfl, rfl, rfl, rfl, rfl, rfl⟩ := e
    exact ⟨_, ⟨o1, o2, g8, g9, g10, g11, g12, g13, g14, o3, rfl, hl, c2, He.dflB_ok c4, He.kwdB_ok c5⟩, kp⟩
  · cases e
abbrev AlX : Type := He.AlD × Bool × List He.FnW
def obsX (K : PySem.W.Frag) : AlX := (He.obsD hfa hfn K, moreB K && hpr.all (fun d => soundAt K (prG K d.name) d), hpr.map fun d => seenAt K (prG K d.name))
def valX : AlX := (He.valD hfn, true, hpr.map He.DefD.val)
def rfE (o : Obj) : List Addr := match o.data with
  | .func g => He.refV g.code ++ He.refV g.defaults
  | .cls cd => [cd.ns]
  | .dict es _ => es.toList.flatMap fun e => He.refV e.val
  | .fields vs => vs.toList.flatMap He.refV
  | _ => []
def rfs (g : Addr → Option Obj) (as : List Addr) : List Addr := as.flatMap fun a => match g a with
  | some o => rfE o
  | none => []
def asX (g : Addr → Option Obj) : List Addr := (fun l1 => (fun l2 => (fun l3 => (fun l4 => mainGlobals :: (l1 ++ (l2 ++ (l3 ++ (l4 ++ rfs g l4))))) (rfs g l3)) (rfs g l2)) (rfs g l1)) (rfs g [mainGlobals])
def hkX : PySem.W.Hook where
  α := AlX
  obs := fun s => obsX (He.frG s.heap.get? (asX s.heap.get?))
  val := fun _ => valX
  says := fun _ h => ∃ K : PySem.W.Frag, K.In h ∧ obsX K = valX
  of := fun _ _ e => ⟨_, He.frG_in, e⟩
  keeps := fun _ _ _ ⟨K, hK, c⟩ k => ⟨K, PySem.W.Frag.In.keeps hK k, c⟩
abbrev RwX : PySem.W.OpenRow := PySem.W.OpenLaw.row PySem.Challenge.rw_formworld_k41_whole_classes_giving_a_num
def obX (s : PySem.W.SharedT) : AlX := obsX (He.frG (HandSHeadRun.getT s) (asX (HandSHeadRun.getT s)))
theorem obX_eq (s : PySem.W.SharedT) : obX s = hkX.obs s.abs := by
  have e : HandSHeadRun.getT s = s.abs.heap.get? := funext fun a => HandSHeadRun.getT_eq s a
  unfold obX
  rw [e]
  rfl
def hnm0 : List Str := ["_wall", "WrongValue", "InvalidText", "InvalidNumber", "InvalidDiscriminant", "InvalidCoefficients", "InvalidVector", "NoAnswer", "TooGreat", "DIGITS", "is_integer", "is_between", "number_in", "integer_in", "MOST_SIZE", "LEAST_DISCRIMINANT", "MOST_DISCRIMINANT", "MOST_NUMBER", "MOST_PASSED", "common_divisor"]
def hnm1 : List Str := ["common_of", "root_of", "is_square", "divisors_of", "unit_table", "applied", "turned", "joined_tables", "determinant", "lessened", "fraction", "diagonal", "behind", "with_lead", "exchanged", "summed", "added", "plus", "UNKNOWNS", "pairs_of"]
def hnm2 : List Str := ["table_for", "check_vector", "check_coefficients", "first_beyond", "form_of", "signature_for", "kind_for", "Form", "is_discriminant", "discriminant_for", "is_reduced_form", "stepped", "reduced_with", "ring_from", "ring_of", "lead_of", "check_discriminant", "reduced_forms", "class_list", "forms_with"]
def hnm3 : List Str := ["classes", "classes_giving", "_law_d", "_law_root", "_law_gcd", "_law_places", "_law_value", "_law_dip", "_law_is_discriminant", "_law_whole", "_law_reduced", "_law_all_reduced", "_law_next", "_law_ring", "_law_leads", "_law_one_of", "_law_jar", "_law_has", "_law_is_square_rest", "_law_right"]
def hnames : List Str := hnm0 ++ hnm1 ++ hnm2 ++ hnm3

end G41
set_option Elab.async false
set_option linter.all false
set_option maxRecDepth 100000
set_option maxHeartbeats 0
namespace G41
open PySem PySem.Spec PyProof.Rows L2
theorem runX_f (w : World) : HandSHeadRun.RunEq RwX (PySem.W.view RwX.prog [88]) hkX obX 6000 hnames (w.withFollow "special-get-raises" false) := by
  intro os
  kernel_rfl
end G41
set_option Elab.async false
set_option linter.all false
set_option maxRecDepth 100000
set_option maxHeartbeats 0
namespace G41
open PySem PySem.Spec PyProof.Rows L2
theorem runX_t (w : World) : HandSHeadRun.RunEq RwX (PySem.W.view RwX.prog [88]) hkX obX 6000 hnames (w.withFollow "special-get-raises" true) := by
  intro os
  kernel_rfl
end G41
/-! Whole-number mirror of the program's functions on coefficient triples, and the finite checks. -/
set_option Elab.async false
set_option linter.all false
set_option maxRecDepth 100000
set_option maxHeartbeats 4000000
namespace G41
abbrev T3 : Type := Int × Int × Int
def absI (c : Int) : Int := if c < 0 then -c else c
def dsc (t : T3) : Int := t.2.1 * t.2.1 - 4 * t.1 * t.2.2
/-! ### the root -/
def isqF : Nat → Nat → Nat
  | 0, _ => 0
  | k + 1, n => if n = 0 then 0 else (fun r => if (r + 1) * (r + 1) ≤ n then r + 1 else r) (2 * isqF k (n / 4))
theorem isqF_ok : ∀ (k n : Nat), n < 4 ^ k → isqF k n * isqF k n ≤ n ∧ n < (isqF k n + 1) * (isqF k n + 1)
  | 0, n, h => by
    have : n = 0 := by simpa using h
    subst this
    simp [isqF]
  | k + 1, n, h => by
    unfold isqF
    by_cases hn : n = 0
    · rw [if_pos hn]; omega
    · rw [if_neg hn]
      have h4 : n / 4 < 4 ^ k := by
        rw [Nat.pow_succ] at h
        omega
      obtain ⟨h1, h2⟩ := isqF_ok k (n / 4) h4
      generalize isqF k (n / 4) = r at h1 h2
      show (if (2 * r + 1) * (2 * r + 1) ≤ n then 2 * r + 1 else 2 * r) * (if (2 * r + 1) * (2 * r + 1) ≤ n then 2 * r + 1 else 2 * r) ≤ n ∧ n < ((if (2 * r + 1) * (2 * r + 1) ≤ n then 2 * r + 1 else 2 * r) + 1) * ((if (2 * r + 1) * (2 * r + 1) ≤ n then 2 * r + 1 else 2 * r) + 1)
      have e1 : (2 * r) * (2 * r) = 4 * (r * r) := by grind
      have e2 : (2 * r + 1 + 1) * (2 * r + 1 + 1) = 4 * ((r + 1) * (r + 1)) := by grind
      have e3 : 4 * (r * r) ≤ n := by omega
      have e4 : n < 4 * ((r + 1) * (r + 1)) := by omega
      by_cases hc : (2 * r + 1) * (2 * r + 1) ≤ n
      · rw [if_pos hc]
        exact ⟨hc, by rw [e2]; exact e4⟩
      · rw [if_neg hc, e1]
        exact ⟨e3, by omega⟩
/-- the greatest integer whose square is not above v, for 0 ≤ v < 4 ^ 24 -/
def isq (v : Int) : Int := (isqF 24 v.toNat : Nat)
theorem isq_nn (v : Int) : 0 ≤ isq v := Int.natCast_nonneg _
theorem isq_ok {v : Int} (h : 0 ≤ v) (hb : v < 4 ^ 24) : isq v * isq v ≤ v ∧ v < (isq v + 1) * (isq v + 1) := by
  obtain ⟨n, rfl⟩ := Int.eq_ofNat_of_zero_le h
  have hn : n < 4 ^ 24 := by omega
  obtain ⟨h1, h2⟩ := isqF_ok 24 n hn
  unfold isq
  simp only [Int.toNat_natCast]
  constructor
  · exact_mod_cast h1
  · exact_mod_cast h2
theorem isq_unique {v r : Int} (h0 : 0 ≤ r) (h1 : r * r ≤ v) (h2 : v < (r + 1) * (r + 1)) (hb : v < 4 ^ 24) : isq v = r := by
  have hv : 0 ≤ v := Int.le_trans (Int.mul_nonneg h0 h0) h1
  obtain ⟨g1, g2⟩ := isq_ok hv hb
  have g0 := isq_nn v
  generalize isq v = s at g0 g1 g2
  rcases Int.lt_trichotomy s r with h | h | h
  · have : (s + 1) * (s + 1) ≤ r * r := Int.mul_le_mul (by omega) (by omega) (by omega) (by omega)
    omega
  · exact h
  · have : (r + 1) * (r + 1) ≤ s * s := Int.mul_le_mul (by omega) (by omega) (by omega) (by omega)
    omega
/-! ### forms in two unknowns -/
def redM (t : T3) : Bool :=
  if dsc t < 0 then decide (-t.1 ≤ t.2.1) && (decide (t.2.1 ≤ t.1) && decide (t.1 ≤ t.2.2)) && (decide (0 ≤ t.2.1) || (!decide (t.2.1 = -t.1) && !decide (t.1 = t.2.2)))
  else if (decide (t.2.1 ≤ 0) || decide (dsc t < t.2.1 * t.2.1)) = true then false
  else decide (dsc t < (2 * absI t.1 + t.2.1) * (2 * absI t.1 + t.2.1)) && (decide (2 * absI t.1 - t.2.1 < 0) || decide ((2 * absI t.1 - t.2.1) * (2 * absI t.1 - t.2.1) < dsc t))
def mostM (t : T3) : Int := if (decide (0 < dsc t) && decide (t.2.2 * t.2.2 < dsc t)) = true then isq (dsc t) else absI t.2.2
def stepE (t : T3) : Int := mostM t - (mostM t + t.2.1) % (2 * absI t.2.2)
def stepK (t : T3) : Int := (stepE t + t.2.1).fdiv (2 * t.2.2)
def stepM (t : T3) : T3 := (t.2.2, stepE t, t.1 - t.2.1 * stepK t + t.2.2 * stepK t * stepK t)
def ltT (x y : T3) : Bool := decide (x.1 < y.1) || (decide (x.1 = y.1) && (decide (x.2.1 < y.2.1) || (decide (x.2.1 = y.2.1) && decide (x.2.2 < y.2.2))))
def minT (x : T3) : List T3 → T3
  | [] => x
  | y :: r => minT (if ltT y x = true then y else x) r
/-- what a form may be -/
def bndC (t : T3) : Bool := decide (absI t.1 ≤ 100000) && decide (absI t.2.1 ≤ 100000) && decide (absI t.2.2 ≤ 100000) && !decide (t.1 = 0) && !decide (t.2.2 = 0) && !decide (dsc t = 0) && decide (absI (dsc t) ≤ 1000)
def redC : Nat → T3 → Option T3
  | 0, _ => none
  | k + 1, t => if bndC t = true then (if redM t = true then some t else redC k (stepM t)) else none
def ringC : Nat → T3 → T3 → Option (List T3)
  | 0, _, _ => none
  | k + 1, f, t => if bndC t = true then (if t = f then some [] else (ringC k f (stepM t)).map (t :: ·)) else none
def leadC (t : T3) : Option T3 :=
  match redC 12 t with
  | none => none
  | some r => if dsc r < 0 then some r else (ringC 60 r (stepM r)).map (minT r)
/-! ### the checks' own loops -/
def allN : Nat → (Nat → Bool) → Bool
  | 0, _ => true
  | k + 1, p => p k && allN k p
theorem allN_ok : ∀ {k : Nat} {p : Nat → Bool}, allN k p = true → ∀ i, i < k → p i = true
  | 0, _, _, i, h => absurd h (Nat.not_lt_zero i)
  | k + 1, p, h, i, hi => by
    unfold allN at h
    obtain ⟨h1, h2⟩ := Bool.and_eq_true_iff.mp h
    rcases Nat.lt_succ_iff_lt_or_eq.mp hi with q | q
    · exact allN_ok h2 i q
    · rw [q]; exact h1
def gcd3 (t : T3) : Nat := Int.gcd ((Int.gcd ((Int.gcd 0 t.1 : Nat) : Int) t.2.1 : Nat) : Int) t.2.2
end G41
/-! Finite checks over coefficient triples, in forced evaluation. -/
set_option Elab.async false
set_option linter.all false
set_option maxRecDepth 100000
set_option maxHeartbeats 0
namespace G41
def frN {α : Type} (n : Nat) (k : Nat → α) : α := match n with
  | 0 => k 0
  | m + 1 => k (m + 1)
theorem frN_eq {α : Type} (n : Nat) (k : Nat → α) : frN n k = k n := by cases n <;> rfl
def frI {α : Type} (i : Int) (k : Int → α) : α := match i with
  | .ofNat n => frN n fun n => k (.ofNat n)
  | .negSucc n => frN n fun n => k (.negSucc n)
theorem frI_eq {α : Type} (i : Int) (k : Int → α) : frI i k = k i := by
  cases i with
  | ofNat n => exact frN_eq n fun n => k (.ofNat n)
  | negSucc n => exact frN_eq n fun n => k (.negSucc n)
def rng (k : Nat) (p : Nat → Bool) : Bool := allN k fun i => frN i p
theorem rng_ok {k : Nat} {p : Nat → Bool} (h : rng k p = true) {i : Nat} (hi : i < k) : p i = true := by
  have := allN_ok h i hi
  rwa [frN_eq] at this
/-! ### the step keeps the discriminant -/
theorem stepK_ok (t : T3) (hc : t.2.2 ≠ 0) : 2 * t.2.2 * stepK t = stepE t + t.2.1 := by
  have h1 : stepE t + t.2.1 = (2 * absI t.2.2) * ((mostM t + t.2.1) / (2 * absI t.2.2)) := by
    have := Int.mul_ediv_add_emod (mostM t + t.2.1) (2 * absI t.2.2)
    unfold stepE
    omega
  have h2 : (2 * t.2.2) ∣ stepE t + t.2.1 := by
    rw [h1]
    refine Int.dvd_mul_of_dvd_left ?_
    unfold absI
    split
    · exact ⟨-1, by omega⟩
    · exact Int.dvd_refl _
  obtain ⟨q, hq⟩ := h2
  unfold stepK
  rw [hq, Int.mul_fdiv_cancel_left _ (by omega)]
theorem dsc_step (t : T3) (hc : t.2.2 ≠ 0) : dsc (stepM t) = dsc t := by
  have h := stepK_ok t hc
  obtain ⟨a, b, c⟩ := t
  unfold stepM dsc
  show stepE (a, b, c) * stepE (a, b, c) - 4 * c * (a - b * stepK (a, b, c) + c * stepK (a, b, c) * stepK (a, b, c)) = b * b - 4 * a * c
  replace h : 2 * c * stepK (a, b, c) = stepE (a, b, c) + b := h
  generalize stepK (a, b, c) = k at h
  generalize stepE (a, b, c) = e at h
  have : e = 2 * c * k - b := by omega
  subst this
  grind
/-! ### forced -/
/-- comparison of integers by cases -/
def leI : Int → Int → Bool
  | .ofNat a, .ofNat b => Nat.ble a b
  | .ofNat _, .negSucc _ => false
  | .negSucc _, .ofNat _ => true
  | .negSucc a, .negSucc b => Nat.ble b a
theorem leI_eq (x y : Int) : leI x y = decide (x ≤ y) := by
  cases x with
  | ofNat a => cases y with
    | ofNat b =>
      show Nat.ble a b = decide ((a : Int) ≤ (b : Int))
      rw [Bool.eq_iff_iff, Nat.ble_eq, decide_eq_true_iff]
      omega
    | negSucc b =>
      symm
      exact decide_eq_false (by have := Int.negSucc_lt_zero b; show ¬ ((a : Int) ≤ _); omega)
  | negSucc a => cases y with
    | ofNat b =>
      symm
      exact decide_eq_true (by have := Int.negSucc_lt_zero a; show _ ≤ (b : Int); omega)
    | negSucc b =>
      show Nat.ble b a = decide (Int.negSucc a ≤ Int.negSucc b)
      rw [Bool.eq_iff_iff, Nat.ble_eq, decide_eq_true_iff]
      have h1 := Int.negSucc_eq a
      have h2 := Int.negSucc_eq b
      omega
def ltI (x y : Int) : Bool := !leI y x
theorem ltI_eq (x y : Int) : ltI x y = decide (x < y) := by
  unfold ltI
  rw [leI_eq, Bool.eq_iff_iff]
  simp
def eqI : Int → Int → Bool
  | .ofNat a, .ofNat b => Nat.beq a b
  | .ofNat _, .negSucc _ => false
  | .negSucc _, .ofNat _ => false
  | .negSucc a, .negSucc b => Nat.beq a b
theorem eqI_eq (x y : Int) : eqI x y = decide (x = y) := by
  cases x with
  | ofNat a => cases y with
    | ofNat b =>
      show Nat.beq a b = decide (Int.ofNat a = Int.ofNat b)
      rw [Bool.eq_iff_iff, Nat.beq_eq, decide_eq_true_iff]
      exact ⟨fun h => by rw [h], fun h => by cases h; rfl⟩
    | negSucc b => rfl
  | negSucc a => cases y with
    | ofNat b => rfl
    | negSucc b =>
      show Nat.beq a b = decide (Int.negSucc a = Int.negSucc b)
      rw [Bool.eq_iff_iff, Nat.beq_eq, decide_eq_true_iff]
      simp
def stepV {α : Type} (D w : Int) (t : T3) (k : T3 → α) : α :=
  frI (Int.ofNat t.2.2.natAbs) fun wide => frI (bif ltI 0 D && ltI (Int.mul t.2.2 t.2.2) D then w else wide) fun most => frI (Int.sub most (Int.emod (Int.add most t.2.1) (Int.mul 2 wide))) fun e => frI (Int.fdiv (Int.add e t.2.1) (Int.mul 2 t.2.2)) fun q =>
  frI (Int.add t.1 (Int.mul q (Int.sub (Int.mul t.2.2 q) t.2.1))) fun f => k (t.2.2, e, f)
theorem natAbs_absI (c : Int) : Int.ofNat c.natAbs = absI c := by
  show ((c.natAbs : Nat) : Int) = _
  unfold absI
  split <;> omega
theorem stepV_eq {α : Type} {D w : Int} {t : T3} (k : T3 → α) (hD : dsc t = D) (hw : isq D = w) : stepV D w t k = k (stepM t) := by
  subst hD
  subst hw
  unfold stepV
  simp only [frI_eq, natAbs_absI, ltI_eq]
  have e1 : (bif decide (0 < dsc t) && decide (Int.mul t.2.2 t.2.2 < dsc t) then isq (dsc t) else absI t.2.2) = mostM t := by
    unfold mostM
    rw [cond_eq_ite]
    rfl
  rw [e1]
  have e2 : Int.sub (mostM t) (Int.emod (Int.add (mostM t) t.2.1) (Int.mul 2 (absI t.2.2))) = stepE t := rfl
  rw [e2]
  have e3 : Int.fdiv (Int.add (stepE t) t.2.1) (Int.mul 2 t.2.2) = stepK t := rfl
  rw [e3]
  have e4 : Int.add t.1 (Int.mul (stepK t) (Int.sub (Int.mul t.2.2 (stepK t)) t.2.1)) = t.1 - t.2.1 * stepK t + t.2.2 * stepK t * stepK t := by
    show t.1 + stepK t * (t.2.2 * stepK t - t.2.1) = _
    grind
  rw [e4]
  rfl
def redBV (D : Int) (t : T3) : Bool :=
  bif ltI D 0 then leI (Int.neg t.1) t.2.1 && (leI t.2.1 t.1 && leI t.1 t.2.2) && (leI 0 t.2.1 || (!eqI t.2.1 (Int.neg t.1) && !eqI t.1 t.2.2))
  else bif leI t.2.1 0 || ltI D (Int.mul t.2.1 t.2.1) then false
  else frI (Int.mul 2 (Int.ofNat t.1.natAbs)) fun a2 => frI (Int.add a2 t.2.1) fun x => frI (Int.sub a2 t.2.1) fun y => ltI D (Int.mul x x) && (ltI y 0 || ltI (Int.mul y y) D)
theorem redBV_eq {D : Int} {t : T3} (hD : dsc t = D) : redBV D t = redM t := by
  subst hD
  unfold redBV redM
  simp only [frI_eq, natAbs_absI, ltI_eq, leI_eq, eqI_eq, cond_eq_ite, decide_eq_true_iff]
  rfl
def bndV (t : T3) : Bool := Nat.ble t.1.natAbs 100000 && Nat.ble t.2.1.natAbs 100000 && Nat.ble t.2.2.natAbs 100000 && !Nat.beq t.1.natAbs 0 && !Nat.beq t.2.2.natAbs 0
theorem bndV_ok {D : Int} {t : T3} (hD : dsc t = D) (h0 : D ≠ 0) (h1 : absI D ≤ 1000) (h : bndV t = true) : bndC t = true := by
  unfold bndV at h
  unfold bndC
  rw [hD]
  simp only [Bool.and_eq_true, Bool.not_eq_true', Nat.ble_eq, decide_eq_true_iff, ← natAbs_absI, decide_eq_false_iff_not] at h ⊢
  obtain ⟨⟨⟨⟨a, b⟩, c⟩, d⟩, e⟩ := h
  have d' : t.1.natAbs ≠ 0 := fun z => by rw [z] at d; cases d
  have e' : t.2.2.natAbs ≠ 0 := fun z => by rw [z] at e; cases e
  have h1' : ((D.natAbs : Nat) : Int) ≤ 1000 := by rw [← natAbs_absI] at h1; exact h1
  refine ⟨⟨⟨⟨⟨⟨?_, ?_⟩, ?_⟩, by omega⟩, by omega⟩, h0⟩, h1'⟩
  · show ((t.1.natAbs : Nat) : Int) ≤ 100000; omega
  · show ((t.2.1.natAbs : Nat) : Int) ≤ 100000; omega
  · show ((t.2.2.natAbs : Nat) : Int) ≤ 100000; omega
theorem bndC_c {t : T3} (h : bndV t = true) : t.2.2 ≠ 0 := by
  intro e
  unfold bndV at h
  simp [e] at h
def redV {α : Type} (D w : Int) : Nat → T3 → (Option T3 → α) → α
  | 0, _, q => q none
  | k + 1, t, q => bif bndV t then (bif redBV D t then q (some t) else stepV D w t fun t' => redV D w k t' q) else q none
theorem redV_ok {D w : Int} (hw : isq D = w) (h0 : D ≠ 0) (h1 : absI D ≤ 1000) : ∀ {k : Nat} {t : T3} {q : Option T3 → Bool}, dsc t = D → q none = false → redV D w k t q = true → ∃ r, redC k t = some r ∧ dsc r = D ∧ bndC r = true ∧ redM r = true ∧ q (some r) = true
  | 0, t, q, hD, hq, h => by
    rw [show redV D w 0 t q = q none from rfl, hq] at h
    cases h
  | k + 1, t, q, hD, hq, h => by
    replace h : (bif bndV t then (bif redBV D t then q (some t) else stepV D w t fun t' => redV D w k t' q) else q none) = true := h
    rw [cond_eq_ite, cond_eq_ite] at h
    by_cases hb : bndV t = true
    · rw [if_pos hb, redBV_eq hD] at h
      have hb2 := bndV_ok hD h0 h1 hb
      show ∃ r, (if bndC t = true then (if redM t = true then some t else redC k (stepM t)) else none) = some r ∧ _
      rw [if_pos hb2]
      by_cases hr : redM t = true
      · rw [if_pos hr] at h ⊢
        exact ⟨t, rfl, hD, hb2, hr, h⟩
      · rw [if_neg hr, stepV_eq _ hD hw] at h
        rw [if_neg hr]
        exact redV_ok hw h0 h1 ((dsc_step t (bndC_c hb)).trans hD) hq h
    · rw [if_neg hb, hq] at h
      cases h
def eqT (x y : T3) : Bool := eqI x.1 y.1 && eqI x.2.1 y.2.1 && eqI x.2.2 y.2.2
theorem eqT_iff {x y : T3} : eqT x y = true ↔ x = y := by
  unfold eqT
  obtain ⟨a, b, c⟩ := x
  obtain ⟨d, e, f⟩ := y
  simp [and_assoc, eqI_eq]
def ringV (D w : Int) : Nat → T3 → T3 → Bool
  | 0, _, _ => false
  | k + 1, f, t => bndV t && (eqT t f || stepV D w t fun t' => ringV D w k f t')
theorem ringV_ok {D w : Int} (hw : isq D = w) (h0 : D ≠ 0) (h1 : absI D ≤ 1000) : ∀ {k : Nat} {f t : T3}, dsc t = D → ringV D w k f t = true → ∃ rs, ringC k f t = some rs
  | 0, f, t, hD, h => by cases h
  | k + 1, f, t, hD, h => by
    replace h : (bndV t && (eqT t f || stepV D w t fun t' => ringV D w k f t')) = true := h
    obtain ⟨hb, h2⟩ := Bool.and_eq_true_iff.mp h
    show ∃ rs, (if bndC t = true then (if t = f then some [] else (ringC k f (stepM t)).map (t :: ·)) else none) = some rs
    rw [if_pos (bndV_ok hD h0 h1 hb)]
    by_cases e : t = f
    · exact ⟨[], by rw [if_pos e]⟩
    · rw [if_neg e]
      rw [stepV_eq _ hD hw] at h2
      rcases Bool.or_eq_true_iff.mp h2 with h3 | h3
      · exact absurd (eqT_iff.mp h3) e
      · obtain ⟨rs, h4⟩ := ringV_ok hw h0 h1 ((dsc_step t (bndC_c hb)).trans hD) h3
        exact ⟨t :: rs, by rw [h4]; rfl⟩
/-- stepping from t reaches x -/
def itM : Nat → T3 → T3
  | 0, t => t
  | k + 1, t => itM k (stepM t)
def reachV (D w : Int) : Nat → T3 → T3 → Bool
  | 0, _, _ => false
  | k + 1, t, x => eqT t x || (bndV t && stepV D w t fun t' => reachV D w k t' x)
theorem reachV_ok {D w : Int} (hw : isq D = w) : ∀ {k : Nat} {t x : T3}, dsc t = D → reachV D w k t x = true → ∃ j, itM j t = x
  | 0, t, x, hD, h => by cases h
  | k + 1, t, x, hD, h => by
    replace h : (eqT t x || (bndV t && stepV D w t fun t' => reachV D w k t' x)) = true := h
    rcases Bool.or_eq_true_iff.mp h with h3 | h3
    · exact ⟨0, eqT_iff.mp h3⟩
    · obtain ⟨hb, h2⟩ := Bool.and_eq_true_iff.mp h3
      rw [stepV_eq _ hD hw] at h2
      obtain ⟨j, hj⟩ := reachV_ok hw ((dsc_step t (bndC_c hb)).trans hD) h2
      exact ⟨j + 1, hj⟩
def gcdV (t : T3) : Nat := Nat.gcd (Nat.gcd t.1.natAbs t.2.1.natAbs) t.2.2.natAbs
theorem gcdV_eq (t : T3) : gcdV t = gcd3 t := by
  unfold gcdV gcd3
  simp [Int.gcd]
/-- the discriminants of the law, above 0 -/
def posD (D : Int) : Bool := decide (5 ≤ D) && decide (D ≤ 400)
def nsq (D w : Int) : Bool := !decide (w * w = D)
/-! ### N1, P2: reducing (n, b, c) -/
def chkRed (D w : Int) (t : T3) : Bool := bif Nat.beq (gcdV t) 1 then redV D w 12 t fun o => match o with | none => false | some r => Nat.beq (gcdV r) 1 else true
theorem chkRed_ok {D w : Int} {t : T3} (hw : isq D = w) (h0 : D ≠ 0) (h1 : absI D ≤ 1000) (hD : dsc t = D) (hg : gcd3 t = 1) (h : chkRed D w t = true) : ∃ r, redC 12 t = some r ∧ dsc r = D ∧ bndC r = true ∧ redM r = true ∧ gcd3 r = 1 := by
  unfold chkRed at h
  rw [show Nat.beq (gcdV t) 1 = true by rw [gcdV_eq, hg]; rfl] at h
  obtain ⟨r, e1, e2, e3, e4, e5⟩ := redV_ok hw h0 h1 hD rfl h
  exact ⟨r, e1, e2, e3, e4, by rw [← gcdV_eq]; exact Nat.eq_of_beq_eq_true e5⟩
end G41
set_option Elab.async false
set_option linter.all false
set_option maxRecDepth 100000
set_option maxHeartbeats 0
namespace G41
theorem n1 : rng 60 (fun n => rng (2 * (n + 1)) fun b => frN ((b * b + 3 + 4 * n + 3) / (4 * (n + 1))) fun c0 => rng (400 / (4 * (n + 1)) + 1) fun j => frI ((b : Int) * b - 4 * ((n : Int) + 1) * ((c0 : Int) + j)) fun D =>
  bif ltI D 0 then frI ((n : Int) + 1) fun n1 => frI (b : Int) fun b1 => frI ((c0 : Int) + j) fun c1 => chkRed D 0 (n1, b1, c1) else true) = true := by decide +kernel
theorem N1 {n b c : Int} (hn : 1 ≤ n) (hn2 : n ≤ 60) (hb : 0 ≤ b) (hb2 : b < 2 * n) (hD : -400 ≤ dsc (n, b, c)) (hD2 : dsc (n, b, c) ≤ -3) (hg : gcd3 (n, b, c) = 1) :
    ∃ r, redC 12 (n, b, c) = some r ∧ dsc r = dsc (n, b, c) ∧ bndC r = true ∧ redM r = true ∧ gcd3 r = 1 := by
  obtain ⟨n', rfl⟩ : ∃ n' : Nat, n = (n' : Int) + 1 := ⟨(n - 1).toNat, by omega⟩
  obtain ⟨b', rfl⟩ := Int.eq_ofNat_of_zero_le hb
  have h1 := rng_ok (rng_ok n1 (show n' < 60 by omega)) (show b' < 2 * (n' + 1) by omega)
  rw [frN_eq] at h1
  replace hD : -400 ≤ (b' : Int) * b' - 4 * ((n' : Int) + 1) * c := hD
  replace hD2 : (b' : Int) * b' - 4 * ((n' : Int) + 1) * c ≤ -3 := hD2
  have c0 : 0 < c := by
    rcases Int.lt_or_le 0 c with h | h
    · exact h
    · have h3 : 4 * ((n' : Int) + 1) * c ≤ 0 := Int.mul_nonpos_of_nonneg_of_nonpos (by omega) h
      have h4 : 0 ≤ (b' : Int) * b' := Int.mul_nonneg (by omega) (by omega)
      omega
  obtain ⟨c', rfl⟩ := Int.eq_ofNat_of_zero_le (Int.le_of_lt c0)
  have hDn : (b' * b' + 3 ≤ 4 * (n' + 1) * c') ∧ 4 * (n' + 1) * c' ≤ b' * b' + 400 := by
    constructor
    · have : ((b' * b' + 3 : Nat) : Int) ≤ ((4 * (n' + 1) * c' : Nat) : Int) := by push_cast; omega
      exact_mod_cast this
    · have : ((4 * (n' + 1) * c' : Nat) : Int) ≤ ((b' * b' + 400 : Nat) : Int) := by push_cast; omega
      exact_mod_cast this
  have hc1 : (b' * b' + 3 + 4 * n' + 3) / (4 * (n' + 1)) ≤ c' := by
    refine Nat.le_of_lt_succ ((Nat.div_lt_iff_lt_mul (by omega)).mpr ?_)
    have : (c' + 1) * (4 * (n' + 1)) = 4 * (n' + 1) * c' + 4 * n' + 4 := by grind
    show _ < (c' + 1) * (4 * (n' + 1))
    omega
  have hc2 : c' < (b' * b' + 3 + 4 * n' + 3) / (4 * (n' + 1)) + (400 / (4 * (n' + 1)) + 1) := by
    have e1 := Nat.div_add_mod (b' * b' + 3 + 4 * n' + 3) (4 * (n' + 1))
    have e2 := Nat.mod_lt (b' * b' + 3 + 4 * n' + 3) (show 0 < 4 * (n' + 1) by omega)
    have e3 := Nat.div_add_mod 400 (4 * (n' + 1))
    have e4 := Nat.mod_lt 400 (show 0 < 4 * (n' + 1) by omega)
    generalize (b' * b' + 3 + 4 * n' + 3) / (4 * (n' + 1)) = q1 at *
    generalize 400 / (4 * (n' + 1)) = q2 at *
    refine Nat.lt_of_not_le fun h => ?_
    have h5 : 4 * (n' + 1) * (q1 + (q2 + 1)) ≤ 4 * (n' + 1) * c' := Nat.mul_le_mul_left _ h
    have h6 : 4 * (n' + 1) * (q1 + (q2 + 1)) = 4 * (n' + 1) * q1 + 4 * (n' + 1) * q2 + 4 * (n' + 1) := by grind
    omega
  generalize (b' * b' + 3 + 4 * n' + 3) / (4 * (n' + 1)) = q1 at *
  have h2 := rng_ok h1 (show c' - q1 < 400 / (4 * (n' + 1)) + 1 by omega)
  have ec : (q1 : Int) + ((c' - q1 : Nat) : Int) = (c' : Int) := by omega
  simp only [frI_eq, ec] at h2
  rw [ltI_eq, decide_eq_true (by omega)] at h2
  refine chkRed_ok (D := dsc ((n' : Int) + 1, (b' : Int), (c' : Int))) (w := 0) ?_ ?_ ?_ rfl hg h2
  · unfold isq
    rw [Int.toNat_of_nonpos (show dsc ((n' : Int) + 1, (b' : Int), (c' : Int)) ≤ 0 by unfold dsc; show (b' : Int) * b' - 4 * ((n' : Int) + 1) * c' ≤ 0; omega)]
    decide
  · show (b' : Int) * b' - 4 * ((n' : Int) + 1) * c' ≠ 0
    omega
  · show absI ((b' : Int) * b' - 4 * ((n' : Int) + 1) * c') ≤ 1000
    unfold absI
    split <;> omega
end G41
set_option Elab.async false
set_option linter.all false
set_option maxRecDepth 100000
set_option maxHeartbeats 0
namespace G41
/-- not a square, of the bounds of the law -/
def nsqD (D : Int) : Prop := 5 ≤ D ∧ D ≤ 400 ∧ isq D * isq D ≠ D
/-! ### R: the ring of a reduced form above 0 -/
def chkRing (D w : Int) (t : T3) : Bool :=
  bif redBV D t then bndV t && ltI (Int.mul t.2.2 t.2.2) D && stepV D w t fun s => ringV D w 50 t s && redBV D s && (bif Nat.beq (gcdV t) 1 then Nat.beq (gcdV s) 1 else true) else true
def chkR2 (D w : Int) (a b c : Nat) : Bool :=
  bif eqI (Int.mul w w) D then true else
    (frI (Int.ofNat a) fun x => frI (Int.neg (Int.ofNat c)) fun z => chkRing D w (x, Int.ofNat b, z)) && (frI (Int.neg (Int.ofNat a)) fun x => frI (Int.ofNat c) fun z => chkRing D w (x, Int.ofNat b, z))
theorem r1 : rng 100 (fun a => rng (100 / (a + 1)) fun c => rng 20 fun b => frN (b * b + 4 * (a + 1) * (c + 1)) fun D => bif Nat.ble D 400 then frI (isq (D : Int)) fun w => frI (D : Int) fun D => chkR2 D w (a + 1) b (c + 1) else true) = true := by decide +kernel
end G41
set_option Elab.async false
set_option linter.all false
set_option maxRecDepth 100000
set_option maxHeartbeats 400000
namespace G41
theorem redM_pos {t : T3} (hD : 0 < dsc t) (h : redM t = true) : 0 < t.2.1 ∧ t.2.1 * t.2.1 ≤ dsc t ∧ dsc t < (2 * absI t.1 + t.2.1) * (2 * absI t.1 + t.2.1) ∧ (2 * absI t.1 < t.2.1 ∨ (2 * absI t.1 - t.2.1) * (2 * absI t.1 - t.2.1) < dsc t) := by
  unfold redM at h
  rw [if_neg (by omega)] at h
  split at h
  · cases h
  · rename_i h2
    simp only [Bool.or_eq_true, decide_eq_true_iff, Bool.and_eq_true] at h2 h
    obtain ⟨h3, h4⟩ := h
    exact ⟨by omega, by omega, h3, by omega⟩
theorem isq_sq {b : Int} (h0 : 0 ≤ b) (h : b < 1000) : isq (b * b) = b := by
  have h1 : b * b ≤ 999 * 999 := Int.mul_le_mul (by omega) (by omega) h0 (by omega)
  exact isq_unique h0 (Int.le_refl _) (by have : (b + 1) * (b + 1) = b * b + 2 * b + 1 := by grind
                                          omega) (by omega)
structure RingOk (t : T3) : Prop where
  bnd : bndC t = true
  cs : t.2.2 * t.2.2 < dsc t
  red : redM (stepM t) = true
  gcd : gcd3 t = 1 → gcd3 (stepM t) = 1
  ring : ∃ rs, ringC 50 t (stepM t) = some rs
theorem chkRing_ok {D w : Int} {t : T3} (hw : isq D = w) (hp : nsqD D) (hD : dsc t = D) (hr : redM t = true) (h : chkRing D w t = true) : RingOk t := by
  have h0 : D ≠ 0 := by have := hp.1; omega
  have h1 : absI D ≤ 1000 := by
    have := hp.1
    have := hp.2.1
    unfold absI
    split <;> omega
  unfold chkRing at h
  rw [redBV_eq hD, hr, cond_true] at h
  obtain ⟨h2, h3⟩ := Bool.and_eq_true_iff.mp h
  obtain ⟨h4, h5⟩ := Bool.and_eq_true_iff.mp h2
  rw [stepV_eq _ hD hw] at h3
  obtain ⟨h6, h7⟩ := Bool.and_eq_true_iff.mp h3
  obtain ⟨h8, h9⟩ := Bool.and_eq_true_iff.mp h6
  have hs : dsc (stepM t) = D := (dsc_step t (bndC_c h4)).trans hD
  rw [redBV_eq hs] at h9
  refine ⟨bndV_ok hD h0 h1 h4, ?_, h9, fun g => ?_, ringV_ok hw h0 h1 hs h8⟩
  · rw [ltI_eq] at h5
    rw [hD]
    exact of_decide_eq_true h5
  · rw [show Nat.beq (gcdV t) 1 = true by rw [gcdV_eq, g]; rfl, cond_true, gcdV_eq] at h7
    exact Nat.eq_of_beq_eq_true h7
theorem nsq_lt {t : T3} (hp : nsqD (dsc t)) (hr : redM t = true) : 0 < t.2.1 ∧ t.2.1 * t.2.1 < dsc t ∧ t.2.1 < 20 := by
  obtain ⟨p1, p2, p3⟩ := hp
  obtain ⟨q1, q2, _⟩ := redM_pos (by omega) hr
  have h3 : t.2.1 < 21 := by
    refine Int.not_le.mp fun h => ?_
    have : 21 * 21 ≤ t.2.1 * t.2.1 := Int.mul_le_mul h h (by omega) (by omega)
    omega
  have h4 : t.2.1 * t.2.1 ≠ dsc t := fun e => p3 (by rw [← e, isq_sq (by omega) (by omega)])
  refine ⟨q1, by omega, ?_⟩
  refine Int.not_le.mp fun h => ?_
  have : 20 * 20 ≤ t.2.1 * t.2.1 := Int.mul_le_mul h h (by omega) (by omega)
  omega
theorem R_ok {t : T3} (hp : nsqD (dsc t)) (hr : redM t = true) : RingOk t := by
  obtain ⟨q1, q2, q3⟩ := nsq_lt hp hr
  obtain ⟨p1, p2, p3⟩ := hp
  obtain ⟨a, b, c⟩ := t
  obtain ⟨b', rfl⟩ := Int.eq_ofNat_of_zero_le (show 0 ≤ b from Int.le_of_lt q1)
  have key : ∀ (a' c' : Nat), (dsc (a, (b' : Int), c) = (b' : Int) * b' + 4 * ((a' : Int) + 1) * ((c' : Int) + 1)) →
      chkR2 (dsc (a, (b' : Int), c)) (isq (dsc (a, (b' : Int), c))) (a' + 1) b' (c' + 1) = true := by
    intro a' c' hD
    have hDn : dsc (a, (b' : Int), c) = ((b' * b' + 4 * (a' + 1) * (c' + 1) : Nat) : Int) := by rw [hD]; push_cast; rfl
    have hle : 4 * (a' + 1) * (c' + 1) ≤ 400 := by
      have h1 : ((b' * b' + 4 * (a' + 1) * (c' + 1) : Nat) : Int) ≤ 400 := by rw [← hDn]; exact p2
      have h2 : b' * b' + 4 * (a' + 1) * (c' + 1) ≤ 400 := by exact_mod_cast h1
      omega
    have e1 : 4 * (a' + 1) * (c' + 1) = 4 * ((c' + 1) * (a' + 1)) := by grind
    have hc : c' + 1 ≤ 100 / (a' + 1) := (Nat.le_div_iff_mul_le (by omega)).mpr (by omega)
    have ha : a' + 1 ≤ 100 := by
      have : (a' + 1) * 1 ≤ (a' + 1) * (c' + 1) := Nat.mul_le_mul_left _ (by omega)
      have e2 : 4 * (a' + 1) * (c' + 1) = 4 * ((a' + 1) * (c' + 1)) := by grind
      omega
    have h := rng_ok (rng_ok (rng_ok r1 (show a' < 100 by omega)) (show c' < 100 / (a' + 1) by omega)) (show b' < 20 by have : (b' : Int) < 20 := q3; omega)
    have hb400 : Nat.ble (b' * b' + 4 * (a' + 1) * (c' + 1)) 400 = true := Nat.ble_eq.mpr (by
      have h1 : ((b' * b' + 4 * (a' + 1) * (c' + 1) : Nat) : Int) ≤ 400 := by rw [← hDn]; exact p2
      exact_mod_cast h1)
    simp only [frN_eq, frI_eq] at h
    rw [hb400, cond_true, ← hDn] at h
    exact h
  have cut : ∀ (a' c' : Nat), (dsc (a, (b' : Int), c) = (b' : Int) * b' + 4 * ((a' : Int) + 1) * ((c' : Int) + 1)) →
      chkRing (dsc (a, (b' : Int), c)) (isq (dsc (a, (b' : Int), c))) (((a' + 1 : Nat) : Int), (b' : Int), -((c' + 1 : Nat) : Int)) = true ∧ chkRing (dsc (a, (b' : Int), c)) (isq (dsc (a, (b' : Int), c))) (-((a' + 1 : Nat) : Int), (b' : Int), ((c' + 1 : Nat) : Int)) = true := by
    intro a' c' hD
    have h := key a' c' hD
    unfold chkR2 at h
    rw [eqI_eq, show decide (Int.mul (isq (dsc (a, (b' : Int), c))) (isq (dsc (a, (b' : Int), c))) = dsc (a, (b' : Int), c)) = false from decide_eq_false p3, cond_false] at h
    simp only [frI_eq] at h
    exact Bool.and_eq_true_iff.mp h
  have h4 : 4 * a * c < 0 := by
    have : dsc (a, (b' : Int), c) = (b' : Int) * b' - 4 * a * c := rfl
    have q2' : (b' : Int) * b' < dsc (a, (b' : Int), c) := q2
    omega
  have p : nsqD (dsc (a, (b' : Int), c)) := ⟨p1, p2, p3⟩
  rcases Int.lt_or_le 0 a with ha | ha
  · have hc : c < 0 := by
      refine Int.not_le.mp fun h => ?_
      have : 0 ≤ 4 * a * c := Int.mul_nonneg (by omega) h
      omega
    obtain ⟨a', rfl⟩ : ∃ a' : Nat, a = ((a' + 1 : Nat) : Int) := ⟨(a - 1).toNat, by omega⟩
    obtain ⟨c', rfl⟩ : ∃ c' : Nat, c = -((c' + 1 : Nat) : Int) := ⟨(-c - 1).toNat, by omega⟩
    refine chkRing_ok rfl p rfl hr (cut a' c' ?_).1
    show (b' : Int) * b' - 4 * ((a' + 1 : Nat) : Int) * (-((c' + 1 : Nat) : Int)) = _
    push_cast
    grind
  · have ha2 : a < 0 := by
      refine Int.lt_iff_le_and_ne.mpr ⟨ha, fun e => ?_⟩
      rw [e] at h4
      omega
    have hc : 0 < c := by
      refine Int.not_le.mp fun h => ?_
      have : 0 ≤ 4 * a * c := Int.mul_nonneg_of_nonpos_of_nonpos (by omega) h
      omega
    obtain ⟨a', rfl⟩ : ∃ a' : Nat, a = -((a' + 1 : Nat) : Int) := ⟨(-a - 1).toNat, by omega⟩
    obtain ⟨c', rfl⟩ : ∃ c' : Nat, c = ((c' + 1 : Nat) : Int) := ⟨(c - 1).toNat, by omega⟩
    refine chkRing_ok rfl p rfl hr (cut a' c' ?_).2
    show (b' : Int) * b' - 4 * (-((a' + 1 : Nat) : Int)) * (((c' + 1 : Nat) : Int)) = _
    push_cast
    grind
end G41
set_option Elab.async false
set_option linter.all false
set_option maxRecDepth 100000
set_option maxHeartbeats 0
namespace G41
/-- the reduced form with first coefficient n beside (n, b, c) -/
def winB (w m b : Int) : Int := w - (w - b) % (2 * m)
def chkWin (D w m : Int) (t : T3) : Bool :=
  frI (Int.sub w (Int.emod (Int.sub w t.2.1) (Int.mul 2 m))) fun b => frI (Int.fdiv (Int.sub (Int.mul b b) D) (Int.mul 4 t.1)) fun c =>
    redV D w 12 t fun o => match o with | none => false | some r => redBV D (t.1, b, c) && eqI (dsc (t.1, b, c)) D && Nat.beq (gcdV t) (gcdV (t.1, b, c)) && reachV D w 50 r (t.1, b, c)
def chkP (D w m : Int) (b : Nat) (c : Int) : Bool :=
  chkRed D w (m, Int.ofNat b, c) && (frI (Int.neg m) fun n => frI (Int.neg c) fun c2 => chkRed D w (n, Int.ofNat b, c2) &&
    bif ltI (Int.mul 4 (Int.mul m m)) D then chkWin D w m (m, Int.ofNat b, c) && chkWin D w m (n, Int.ofNat b, c2) else true)
theorem p2 : rng 60 (fun n => rng (2 * (n + 1)) fun b => frN (b * b % (4 * (n + 1))) fun r0 => rng (400 / (4 * (n + 1)) + 1) fun j => frN (r0 + 4 * (n + 1) * j) fun D =>
  bif Nat.ble 5 D && Nat.ble D 400 then frI (isq (D : Int)) fun w => frI (D : Int) fun D => bif eqI (Int.mul w w) D then true else frI ((n + 1 : Nat) : Int) fun m => frI (((b * b : Nat) : Int).fdiv (4 * m) - D.fdiv (4 * m)) fun c => chkP D w m b c else true) = true := by decide +kernel
end G41
set_option Elab.async false
set_option linter.all false
set_option maxRecDepth 100000
set_option maxHeartbeats 400000
namespace G41
theorem cov_pos {m c : Int} {b : Nat} (hm : 1 ≤ m) (hm2 : m ≤ 60) (hb2 : (b : Int) < 2 * m) (hp : nsqD (dsc (m, (b : Int), c))) : chkP (dsc (m, (b : Int), c)) (isq (dsc (m, (b : Int), c))) m b c = true := by
  obtain ⟨p1, p2', p3⟩ := hp
  obtain ⟨n, rfl⟩ : ∃ n : Nat, m = ((n + 1 : Nat) : Int) := ⟨(m - 1).toNat, by omega⟩
  obtain ⟨D, hD⟩ := Int.eq_ofNat_of_zero_le (show 0 ≤ dsc (((n + 1 : Nat) : Int), (b : Int), c) by omega)
  have hDe : dsc (((n + 1 : Nat) : Int), (b : Int), c) = (b : Int) * b - 4 * ((n + 1 : Nat) : Int) * c := rfl
  rw [hD] at p1 p2' p3 hDe ⊢
  have h4 : (4 * ((n + 1 : Nat) : Int)) ∣ (((b * b : Nat) : Int) - (D : Int)) := ⟨c, by push_cast at hDe ⊢; omega⟩
  have hmod : b * b % (4 * (n + 1)) = D % (4 * (n + 1)) := by
    have := (Int.emod_emod_of_dvd ((b * b : Nat) : Int) (Int.dvd_refl (4 * ((n + 1 : Nat) : Int))))
    have h5 := Int.emod_eq_emod_iff_emod_sub_eq_zero.mpr (Int.emod_eq_zero_of_dvd h4)
    exact_mod_cast h5
  have hdm := Nat.div_add_mod D (4 * (n + 1))
  have hj : D / (4 * (n + 1)) < 400 / (4 * (n + 1)) + 1 := Nat.lt_succ_of_le (Nat.div_le_div_right (by omega))
  have h := rng_ok (rng_ok p2 (show n < 60 by omega)) (show b < 2 * (n + 1) by omega)
  rw [frN_eq] at h
  have h2 := rng_ok h hj
  rw [hmod, show D % (4 * (n + 1)) + 4 * (n + 1) * (D / (4 * (n + 1))) = D by omega] at h2
  have hb : (Nat.ble 5 D && Nat.ble D 400) = true := by
    rw [Bool.and_eq_true_iff, Nat.ble_eq, Nat.ble_eq]
    omega
  simp only [frN_eq, frI_eq] at h2
  rw [hb, cond_true, eqI_eq, show decide (Int.mul (isq (D : Int)) (isq (D : Int)) = (D : Int)) = false from decide_eq_false p3, cond_false] at h2
  have hc : (((b * b : Nat) : Int).fdiv (4 * ((n + 1 : Nat) : Int)) - ((D : Int)).fdiv (4 * ((n + 1 : Nat) : Int))) = c := by
    have e : ((b * b : Nat) : Int) = (D : Int) + (4 * ((n + 1 : Nat) : Int)) * c := by push_cast at hDe ⊢; omega
    rw [e, Int.add_mul_fdiv_left _ _ (by omega)]
    omega
  rw [hc] at h2
  exact h2
theorem chkP_cut {D w m : Int} {b : Nat} {c : Int} (h : chkP D w m b c = true) : chkRed D w (m, (b : Int), c) = true ∧ chkRed D w (-m, (b : Int), -c) = true ∧ (4 * (m * m) < D → chkWin D w m (m, (b : Int), c) = true ∧ chkWin D w m (-m, (b : Int), -c) = true) := by
  unfold chkP at h
  simp only [frI_eq] at h
  obtain ⟨h1, h2⟩ := Bool.and_eq_true_iff.mp h
  obtain ⟨h3, h4⟩ := Bool.and_eq_true_iff.mp h2
  refine ⟨h1, h3, fun hm => ?_⟩
  rw [ltI_eq, show decide (Int.mul 4 (Int.mul m m) < D) = true from decide_eq_true hm, cond_true] at h4
  exact Bool.and_eq_true_iff.mp h4
structure RedOk (t : T3) : Prop where
  ex : ∃ r, redC 12 t = some r ∧ dsc r = dsc t ∧ bndC r = true ∧ redM r = true ∧ gcd3 r = 1
structure WinOk (t : T3) (b : Int) : Prop where
  ex : ∃ r c, redC 12 t = some r ∧ redM r = true ∧ dsc r = dsc t ∧ redM (t.1, b, c) = true ∧ dsc (t.1, b, c) = dsc t ∧ (gcd3 t = gcd3 (t.1, b, c)) ∧ ∃ j, itM j r = (t.1, b, c)
theorem chkWin_ok {m : Int} {t : T3} (hp : nsqD (dsc t)) (h : chkWin (dsc t) (isq (dsc t)) m t = true) : WinOk t (winB (isq (dsc t)) m t.2.1) := by
  have h0 : dsc t ≠ 0 := by have := hp.1; omega
  have h1 : absI (dsc t) ≤ 1000 := by
    have := hp.1
    have := hp.2.1
    unfold absI
    split <;> omega
  unfold chkWin at h
  simp only [frI_eq] at h
  obtain ⟨r, e1, e2, e3, e4, e5⟩ := redV_ok rfl h0 h1 rfl rfl h
  have e5 : (redBV (dsc t) (t.1, winB (isq (dsc t)) m t.2.1, Int.fdiv (Int.sub (Int.mul (winB (isq (dsc t)) m t.2.1) (winB (isq (dsc t)) m t.2.1)) (dsc t)) (Int.mul 4 t.1)) && eqI (dsc (t.1, winB (isq (dsc t)) m t.2.1, Int.fdiv (Int.sub (Int.mul (winB (isq (dsc t)) m t.2.1) (winB (isq (dsc t)) m t.2.1)) (dsc t)) (Int.mul 4 t.1))) (dsc t) && Nat.beq (gcdV t) (gcdV (t.1, winB (isq (dsc t)) m t.2.1, Int.fdiv (Int.sub (Int.mul (winB (isq (dsc t)) m t.2.1) (winB (isq (dsc t)) m t.2.1)) (dsc t)) (Int.mul 4 t.1))) && reachV (dsc t) (isq (dsc t)) 50 r (t.1, winB (isq (dsc t)) m t.2.1, Int.fdiv (Int.sub (Int.mul (winB (isq (dsc t)) m t.2.1) (winB (isq (dsc t)) m t.2.1)) (dsc t)) (Int.mul 4 t.1))) = true := e5
  generalize Int.fdiv (Int.sub (Int.mul (winB (isq (dsc t)) m t.2.1) (winB (isq (dsc t)) m t.2.1)) (dsc t)) (Int.mul 4 t.1) = c at e5
  obtain ⟨h6, h7⟩ := Bool.and_eq_true_iff.mp e5
  obtain ⟨h8, h9⟩ := Bool.and_eq_true_iff.mp h6
  obtain ⟨h10, h11⟩ := Bool.and_eq_true_iff.mp h8
  rw [eqI_eq] at h11
  have h12 := of_decide_eq_true h11
  rw [redBV_eq h12] at h10
  have h13 := Nat.eq_of_beq_eq_true h9
  rw [gcdV_eq, gcdV_eq] at h13
  exact ⟨r, c, e1, e4, e2, h10, h12, h13, reachV_ok rfl e2 h7⟩
theorem chkRed_ok2 {t : T3} (hp : nsqD (dsc t)) (hg : gcd3 t = 1) (h : chkRed (dsc t) (isq (dsc t)) t = true) : RedOk t := by
  have h0 : dsc t ≠ 0 := by have := hp.1; omega
  have h1 : absI (dsc t) ≤ 1000 := by
    have := hp.1
    have := hp.2.1
    unfold absI
    split <;> omega
  exact ⟨chkRed_ok rfl h0 h1 rfl hg h⟩
theorem dsc_neg (n b c : Int) : dsc (-n, b, -c) = dsc (n, b, c) := by
  unfold dsc
  show b * b - 4 * (-n) * (-c) = b * b - 4 * n * c
  grind
theorem P2_ok {n b c : Int} (hn : n ≠ 0) (hn2 : n.natAbs ≤ 60) (hb : 0 ≤ b) (hb2 : b < 2 * n.natAbs) (hp : nsqD (dsc (n, b, c))) (hg : gcd3 (n, b, c) = 1) : RedOk (n, b, c) := by
  obtain ⟨b', rfl⟩ := Int.eq_ofNat_of_zero_le hb
  rcases Int.lt_or_le 0 n with h | h
  · exact chkRed_ok2 hp hg (chkP_cut (cov_pos (by omega) (by omega) (by omega) hp)).1
  · obtain ⟨m, rfl⟩ : ∃ m, n = -m := ⟨-n, by omega⟩
    obtain ⟨e, rfl⟩ : ∃ e, c = -e := ⟨-c, by omega⟩
    have hp2 := hp
    rw [dsc_neg] at hp2
    have := (chkP_cut (cov_pos (m := m) (b := b') (c := e) (by omega) (by omega) (by omega) hp2)).2.1
    rw [← dsc_neg] at this
    exact chkRed_ok2 hp hg this
theorem W_ok {n b c : Int} (hn : n ≠ 0) (hn2 : n.natAbs ≤ 60) (hb : 0 ≤ b) (hb2 : b < 2 * n.natAbs) (hp : nsqD (dsc (n, b, c))) (h4 : 4 * (n * n) < dsc (n, b, c)) : WinOk (n, b, c) (winB (isq (dsc (n, b, c))) n.natAbs b) := by
  obtain ⟨b', rfl⟩ := Int.eq_ofNat_of_zero_le hb
  rcases Int.lt_or_le 0 n with h | h
  · have e : ((n.natAbs : Nat) : Int) = n := by omega
    rw [e]
    exact chkWin_ok hp ((chkP_cut (cov_pos (by omega) (by omega) (by omega) hp)).2.2 h4).1
  · obtain ⟨m, rfl⟩ : ∃ m, n = -m := ⟨-n, by omega⟩
    obtain ⟨e, rfl⟩ : ∃ e, c = -e := ⟨-c, by omega⟩
    have hp2 := hp
    rw [dsc_neg] at hp2
    rw [dsc_neg, Int.neg_mul_neg] at h4
    have := ((chkP_cut (cov_pos (m := m) (b := b') (c := e) (by omega) (by omega) (by omega) hp2)).2.2 h4).2
    have e : (((-m).natAbs : Nat) : Int) = m := by omega
    rw [e]
    rw [← dsc_neg] at this
    exact chkWin_ok hp this
end G41
set_option Elab.async false
set_option linter.all false
set_option maxRecDepth 100000
set_option maxHeartbeats 0
namespace G41
def xgV : Nat → Int → Int → (Int → Int → Bool) → Bool
  | 0, _, _, _ => false
  | k + 1, u, v, q => bif eqI v 0 then q u 0 else frI (Int.emod u v) fun r => xgV k v r fun p' q' => frI (Int.sub p' (Int.mul (Int.ediv u v) q')) fun z => q q' z
def valM (t : T3) (u v : Int) : Int := t.1 * u * u + t.2.1 * u * v + t.2.2 * v * v
def chkAt (D : Int) (x : T3) (n b c : Int) : Bool := eqI (Int.sub (Int.mul b b) (Int.mul 4 (Int.mul n c))) D && Nat.beq (gcdV (n, b, c)) 1 && redV D 0 12 (n, b, c) fun o => match o with | none => false | some r => eqT r x
def chkRep (D : Int) (x : T3) (u v : Int) : Bool :=
  bif Nat.beq (Nat.gcd u.natAbs v.natAbs) 1 then frI (valM x u v) fun n => bif leI n 60 then
    xgV 10 u v (fun s q => frI (Int.emod (Int.add (Int.mul (-2) (Int.mul (Int.mul x.1 u) q)) (Int.add (Int.mul x.2.1 (Int.sub (Int.mul u s) (Int.mul v q))) (Int.mul 2 (Int.mul (Int.mul x.2.2 v) s)))) (Int.mul 2 n)) fun b =>
      frI (Int.fdiv (Int.sub (Int.mul b b) D) (Int.mul 4 n)) fun c => chkAt D x n b c) else true else true
def chkN (D a b c : Int) (k : Nat) : Bool :=
  bif leI (-400) D && redBV D (a, b, c) && Nat.beq (gcdV (a, b, c)) 1 then rng (k + 1) fun v => rng (2 * k + 1) fun u => frI (Int.sub (Int.ofNat u) (Int.ofNat k)) fun u => frI (Int.ofNat v) fun v => chkRep D (a, b, c) u v else true
theorem n2 : rng 11 (fun a => frN (isqF 24 (80 / (a + 1))) fun k => rng (2 * (a + 1) + 1) fun b => rng ((400 + 121) / (4 * (a + 1)) + 1) fun c => frI (Int.ofNat (a + 1)) fun a => frI (Int.ofNat b - a) fun b => frI (Int.ofNat c) fun c =>
  frI (b * b - 4 * a * c) fun D => bif ltI D 0 then chkN D a b c k else true) = true := by decide +kernel
end G41
set_option Elab.async false
set_option linter.all false
set_option maxRecDepth 100000
set_option maxHeartbeats 400000
namespace G41
theorem sq_nn {z : Int} : 0 ≤ z * z := by
  rcases Int.le_total 0 z with h | h
  · exact Int.mul_nonneg h h
  · exact Int.mul_nonneg_of_nonpos_of_nonpos h h
theorem sq_zero {z : Int} (h : z * z = 0) : z = 0 := by
  rcases Int.mul_eq_zero.mp h with h | h <;> exact h
theorem xgV_ok : ∀ {k : Nat} {u v : Int} {q : Int → Int → Bool}, xgV k u v q = true → ∃ s p, q s p = true
  | 0, _, _, _, h => by cases h
  | k + 1, u, v, q, h => by
    unfold xgV at h
    rw [cond_eq_ite] at h
    split at h
    · exact ⟨_, _, h⟩
    · rw [frI_eq] at h
      obtain ⟨s, p, h2⟩ := xgV_ok h
      rw [frI_eq] at h2
      exact ⟨_, _, h2⟩
theorem redM_neg {x : T3} (h : redM x = true) (hD : dsc x < 0) : -x.1 ≤ x.2.1 ∧ x.2.1 ≤ x.1 ∧ x.1 ≤ x.2.2 := by
  unfold redM at h
  rw [if_pos hD] at h
  simp only [Bool.and_eq_true, decide_eq_true_iff] at h
  exact ⟨h.1.1, h.1.2.1, h.1.2.2⟩
/-- what a reduced form's values bound -/
theorem neg_bounds {x : T3} {u v : Int} (h : redM x = true) (hD : dsc x < 0) (ha : 0 < x.1) : x.2.2 * (v * v) * 3 ≤ 4 * valM x u v ∧ x.1 * (u * u) * 3 ≤ 4 * valM x u v ∧ ((u ≠ 0 ∨ v ≠ 0) → 0 < valM x u v) := by
  obtain ⟨h1, h2, h3⟩ := redM_neg h hD
  obtain ⟨a, b, c⟩ := x
  replace h1 : -a ≤ b := h1
  replace h2 : b ≤ a := h2
  replace h3 : a ≤ c := h3
  replace ha : 0 < a := ha
  show c * (v * v) * 3 ≤ 4 * valM (a, b, c) u v ∧ a * (u * u) * 3 ≤ 4 * valM (a, b, c) u v ∧ ((u ≠ 0 ∨ v ≠ 0) → 0 < valM (a, b, c) u v)
  have hbb : b * b ≤ a * a := by
    have : 0 ≤ (a - b) * (a + b) := Int.mul_nonneg (by omega) (by omega)
    have e : (a - b) * (a + b) = a * a - b * b := by grind
    omega
  have hac : a * a ≤ a * c := Int.mul_le_mul_of_nonneg_left h3 (by omega)
  have e1 : 4 * a * valM (a, b, c) u v = (2 * a * u + b * v) * (2 * a * u + b * v) + (4 * (a * c) - b * b) * (v * v) := by unfold valM; grind
  have e2 : 4 * c * valM (a, b, c) u v = (2 * c * v + b * u) * (2 * c * v + b * u) + (4 * (a * c) - b * b) * (u * u) := by unfold valM; grind
  have vv : 0 ≤ v * v := sq_nn
  have uu : 0 ≤ u * u := sq_nn
  have s1 : 0 ≤ (2 * a * u + b * v) * (2 * a * u + b * v) := sq_nn
  have s2 : 0 ≤ (2 * c * v + b * u) * (2 * c * v + b * u) := sq_nn
  have w1 : (3 * (a * c)) * (v * v) ≤ (4 * (a * c) - b * b) * (v * v) := Int.mul_le_mul_of_nonneg_right (by omega) vv
  have w2 : (3 * (a * c)) * (u * u) ≤ (4 * (a * c) - b * b) * (u * u) := Int.mul_le_mul_of_nonneg_right (by omega) uu
  have r1 : c * (v * v) * 3 ≤ 4 * valM (a, b, c) u v := by
    refine Int.le_of_mul_le_mul_left (a := a) ?_ ha
    have : a * (c * (v * v) * 3) = (3 * (a * c)) * (v * v) := by grind
    have e3 : a * (4 * valM (a, b, c) u v) = 4 * a * valM (a, b, c) u v := by grind
    omega
  have r2 : a * (u * u) * 3 ≤ 4 * valM (a, b, c) u v := by
    refine Int.le_of_mul_le_mul_left (a := c) ?_ (by omega)
    have : c * (a * (u * u) * 3) = (3 * (a * c)) * (u * u) := by grind
    have e3 : c * (4 * valM (a, b, c) u v) = 4 * c * valM (a, b, c) u v := by grind
    omega
  refine ⟨r1, r2, fun hz => ?_⟩
  rcases hz with hz | hz
  · have : 0 < u * u := Int.lt_iff_le_and_ne.mpr ⟨uu, fun e => hz (sq_zero e.symm)⟩
    have : 0 < a * (u * u) := Int.mul_pos ha this
    omega
  · have : 0 < v * v := Int.lt_iff_le_and_ne.mpr ⟨vv, fun e => hz (sq_zero e.symm)⟩
    have : 0 < c * (v * v) := Int.mul_pos (by omega) this
    omega
theorem N2_ok {x : T3} {u v : Int} (hr : redM x = true) (hD : -400 ≤ dsc x) (hD2 : dsc x < 0) (ha : 0 < x.1) (hg : gcd3 x = 1) (hv : 0 ≤ v) (hc : Int.gcd u v = 1) (hn : valM x u v ≤ 60) :
    ∃ b c, 0 ≤ b ∧ b < 2 * valM x u v ∧ dsc (valM x u v, b, c) = dsc x ∧ gcd3 (valM x u v, b, c) = 1 ∧ redC 12 (valM x u v, b, c) = some x := by
  have hz : u ≠ 0 ∨ v ≠ 0 := by
    by_cases h : u = 0
    · refine Or.inr fun e => ?_
      rw [h, e] at hc
      exact absurd hc (by decide)
    · exact Or.inl h
  obtain ⟨b1, b2, b3⟩ := neg_bounds (u := u) (v := v) hr hD2 ha
  have b3 := b3 hz
  obtain ⟨h1, h2, h3⟩ := redM_neg hr hD2
  obtain ⟨a, b, c⟩ := x
  replace h1 : -a ≤ b := h1
  replace h2 : b ≤ a := h2
  replace h3 : a ≤ c := h3
  replace ha : 0 < a := ha
  replace b1 : c * (v * v) * 3 ≤ 4 * valM (a, b, c) u v := b1
  replace b2 : a * (u * u) * 3 ≤ 4 * valM (a, b, c) u v := b2
  have hDe : dsc (a, b, c) = b * b - 4 * a * c := rfl
  have vv : 0 ≤ v * v := sq_nn
  have b4 : a * (v * v) ≤ c * (v * v) := Int.mul_le_mul_of_nonneg_right h3 vv
  have hbb : b * b ≤ a * a := by
    have : 0 ≤ (a - b) * (a + b) := Int.mul_nonneg (by omega) (by omega)
    have e : (a - b) * (a + b) = a * a - b * b := by grind
    omega
  have hac : a * a ≤ a * c := Int.mul_le_mul_of_nonneg_left h3 (by omega)
  have eac : 4 * a * c = 4 * (a * c) := by grind
  have ha11 : a < 12 := by
    refine Int.not_le.mp fun h => ?_
    have : 12 * 12 ≤ a * a := Int.mul_le_mul h h (by omega) (by omega)
    omega
  obtain ⟨a', rfl⟩ : ∃ a' : Nat, a = ((a' + 1 : Nat) : Int) := ⟨(a - 1).toNat, by omega⟩
  obtain ⟨b', hb'⟩ : ∃ b' : Nat, b = (b' : Int) - ((a' + 1 : Nat) : Int) := ⟨(b + ((a' + 1 : Nat) : Int)).toNat, by omega⟩
  obtain ⟨c', rfl⟩ := Int.eq_ofNat_of_zero_le (show 0 ≤ c by omega)
  obtain ⟨v', rfl⟩ := Int.eq_ofNat_of_zero_le hv
  have haa : ((a' + 1 : Nat) : Int) * ((a' + 1 : Nat) : Int) ≤ 121 := by
    have := Int.mul_le_mul (show ((a' + 1 : Nat) : Int) ≤ 11 by omega) (show ((a' + 1 : Nat) : Int) ≤ 11 by omega) (by omega) (by omega)
    omega
  have hcn : c' < (400 + 121) / (4 * (a' + 1)) + 1 := by
    refine Nat.lt_succ_of_le ((Nat.le_div_iff_mul_le (by omega)).mpr ?_)
    have : ((c' * (4 * (a' + 1)) : Nat) : Int) ≤ 521 := by
      have e : ((c' * (4 * (a' + 1)) : Nat) : Int) = 4 * ((a' + 1 : Nat) : Int) * (c' : Int) := by push_cast; grind
      omega
    exact_mod_cast this
  obtain ⟨k1, k2⟩ := isqF_ok 24 (80 / (a' + 1)) (Nat.lt_of_le_of_lt (Nat.div_le_self _ _) (by decide))
  have hk : ∀ z : Nat, ((a' + 1 : Nat) : Int) * ((z : Int) * z) * 3 ≤ 240 → z ≤ isqF 24 (80 / (a' + 1)) := by
    intro z hz
    refine Nat.le_of_not_lt fun h => ?_
    have h5 : (isqF 24 (80 / (a' + 1)) + 1) * (isqF 24 (80 / (a' + 1)) + 1) ≤ z * z := Nat.mul_le_mul h h
    have h6 : z * z ≤ 80 / (a' + 1) := by
      refine (Nat.le_div_iff_mul_le (by omega)).mpr ?_
      have : ((z * z * (a' + 1) : Nat) : Int) ≤ 80 := by
        have e : ((z * z * (a' + 1) : Nat) : Int) = ((a' + 1 : Nat) : Int) * ((z : Int) * z) := by push_cast; grind
        omega
      exact_mod_cast this
    omega
  have hvk := hk v' (by omega)
  have huk := hk u.natAbs (by
    have : ((u.natAbs : Nat) : Int) * ((u.natAbs : Nat) : Int) = u * u := Int.natAbs_mul_self
    rw [this]
    omega)
  have h := rng_ok n2 (show a' < 11 by omega)
  rw [frN_eq] at h
  have h4 := rng_ok (rng_ok h (show b' < 2 * (a' + 1) + 1 by omega)) hcn
  simp only [frI_eq] at h4
  have eb : Int.ofNat b' - Int.ofNat (a' + 1) = b := hb'.symm
  rw [eb] at h4
  have eD : b * b - 4 * Int.ofNat (a' + 1) * Int.ofNat c' = dsc (((a' + 1 : Nat) : Int), b, (c' : Int)) := rfl
  rw [eD, ltI_eq, decide_eq_true hD2, cond_true] at h4
  unfold chkN at h4
  have ex : ((Int.ofNat (a' + 1), b, Int.ofNat c') : T3) = (((a' + 1 : Nat) : Int), b, (c' : Int)) := rfl
  rw [ex, leI_eq, decide_eq_true hD, redBV_eq rfl, hr, gcdV_eq, hg, show (true && true && Nat.beq 1 1) = true from rfl, cond_true] at h4
  generalize isqF 24 (80 / (a' + 1)) = k at *
  have h5 := rng_ok (rng_ok h4 (show v' < k + 1 by omega)) (show (u + k).toNat < 2 * k + 1 by omega)
  simp only [frI_eq] at h5
  rw [show Int.sub (Int.ofNat (u + (k : Int)).toNat) (Int.ofNat k) = u by show (((u + (k : Int)).toNat : Nat) : Int) - (k : Int) = u; omega] at h5
  unfold chkRep at h5
  rw [show Nat.gcd u.natAbs (Int.ofNat v').natAbs = 1 from hc, show Nat.beq 1 1 = true from rfl, cond_true, frI_eq] at h5
  rw [show valM (((a' + 1 : Nat) : Int), b, (c' : Int)) u (Int.ofNat v') = valM (((a' + 1 : Nat) : Int), b, (c' : Int)) u (v' : Int) from rfl, leI_eq, decide_eq_true hn, cond_true] at h5
  generalize valM (((a' + 1 : Nat) : Int), b, (c' : Int)) u (v' : Int) = n at *
  obtain ⟨s, q, h6⟩ := xgV_ok h5
  simp only [frI_eq] at h6
  generalize Int.add (Int.mul (-2) _) _ = z at h6
  have q1 : 0 ≤ Int.emod z (Int.mul 2 n) := Int.emod_nonneg _ (by show 2 * n ≠ 0; omega)
  have q2 : Int.emod z (Int.mul 2 n) < 2 * n := Int.emod_lt_of_pos _ (by show 0 < 2 * n; omega)
  generalize Int.emod z (Int.mul 2 n) = bb at h6 q1 q2
  generalize Int.fdiv (Int.sub (Int.mul bb bb) (dsc (((a' + 1 : Nat) : Int), b, (c' : Int)))) (Int.mul 4 n) = cc at h6
  unfold chkAt at h6
  obtain ⟨h7, h8⟩ := Bool.and_eq_true_iff.mp h6
  obtain ⟨h9, h10⟩ := Bool.and_eq_true_iff.mp h7
  rw [eqI_eq] at h9
  have h11 : dsc (n, bb, cc) = dsc (((a' + 1 : Nat) : Int), b, (c' : Int)) := by
    have := of_decide_eq_true h9
    rw [← this]
    show bb * bb - 4 * n * cc = bb * bb - 4 * (n * cc)
    grind
  have hw : isq (dsc (((a' + 1 : Nat) : Int), b, (c' : Int))) = 0 := by
    unfold isq
    rw [Int.toNat_of_nonpos (by omega)]
    decide
  obtain ⟨r, e1, _, _, _, e5⟩ := redV_ok hw (by omega) (by unfold absI; split <;> omega) h11 rfl h8
  have e6 : r = (((a' + 1 : Nat) : Int), b, (c' : Int)) := eqT_iff.mp e5
  rw [e6] at e1
  have h12 := Nat.eq_of_beq_eq_true h10
  rw [gcdV_eq] at h12
  exact ⟨bb, cc, q1, q2, h11, h12, e1⟩
end G41
set_option Elab.async false
set_option linter.all false
set_option maxRecDepth 100000
set_option maxHeartbeats 4000000
namespace G41
open PySem PySem.Spec PyProof.Rows L2
/-! ### tuples of three ints -/
abbrev tv (t : T3) : List V := [.int t.1, .int t.2.1, .int t.2.2]
abbrev d3 (t : T3) : PyData := .tuple [.int t.1, .int t.2.1, .int t.2.2]
/-- tuples at the addresses -/
def TupsAt (K : PySem.W.Frag) (H : Hp) (bs : List (Addr × T3)) : Prop := ∀ b ∈ bs, SqT K H b.1 (tv b.2)
abbrev rf (bs : List (Addr × T3)) : List V := bs.map fun b => V.ref b.1
theorem dp_tv {K : PySem.W.Frag} {H : Hp} {a : Addr} {t : T3} (h : SqT K H a (tv t)) : Dp K H (.ref a) (d3 t) := .tup h (.cons (.int _) (.cons (.int _) (.cons (.int _) .nil)))
theorem dp_all {K : PySem.W.Frag} {H : Hp} : ∀ {bs : List (Addr × T3)}, TupsAt K H bs → DpAll K H (rf bs) (bs.map fun b => d3 b.2)
  | [], _ => .nil
  | b :: r, h => .cons (dp_tv (h b List.mem_cons_self)) (dp_all fun c hc => h c (List.mem_cons_of_mem _ hc))
theorem d3_depth (t : T3) : (d3 t).depth = 1 := by simp [d3, PyData.depth, PyData.depthAll]
theorem d3_alike (t u : T3) : PySem.W.alike (d3 t) (d3 u) = true := by simp [d3, PySem.W.alike, PySem.W.alikeAll]
theorem d3_eqv (t u : T3) : PyData.eqv (d3 t) (d3 u) = decide (t = u) := by
  obtain ⟨a, b, c⟩ := t
  obtain ⟨a', b', c'⟩ := u
  have e : PyData.eqv (d3 (a, b, c)) (d3 (a', b', c')) = ((a == a') && ((b == b') && ((c == c') && true))) := by simp only [d3, PyData.eqv, PyData.eqvAll]
  rw [e]
  by_cases h1 : a = a' <;> by_cases h2 : b = b' <;> by_cases h3 : c = c' <;> simp [h1, h2, h3]
theorem dataLt_d3 (t u : T3) : PySem.W.dataLt (d3 t) (d3 u) = ltT t u := by
  obtain ⟨a, b, c⟩ := t
  obtain ⟨a', b', c'⟩ := u
  have z : PyProof.Rows.lexLt itemOrd (PySem.W.keyToksAll []) (PySem.W.keyToksAll []) = false := lex_irrefl _
  rw [PySem.W.dataLt_tuple, PySem.W.dataLt_cons (by simp [PySem.W.alike]), PySem.W.dataLt_cons (by simp [PySem.W.alike]), PySem.W.dataLt_cons (by simp [PySem.W.alike]), z, PySem.W.dataLt_int, PySem.W.dataLt_int, PySem.W.dataLt_int]
  simp only [PyData.eqv, beq_iff_eq, ltT]
  by_cases h1 : a = a' <;> by_cases h2 : b = b' <;> by_cases h3 : c = c' <;> simp [h1, h2, h3]
theorem ltT_irrefl (t : T3) : ltT t t = false := by simp [ltT]
theorem ltT_trans {x y z : T3} (h1 : ltT x y = true) (h2 : ltT y z = true) : ltT x z = true := by
  simp only [ltT, Bool.or_eq_true, Bool.and_eq_true, decide_eq_true_eq] at *
  omega
theorem ltT_total {x y : T3} (h1 : ltT x y = false) (h2 : ltT y x = false) : x = y := by
  obtain ⟨a, b, c⟩ := x
  obtain ⟨a', b', c'⟩ := y
  simp only [ltT, Bool.or_eq_false_iff, Bool.and_eq_false_iff, decide_eq_false_iff_not] at *
  have e1 : a = a' := by omega
  have e2 : b = b' := by omega
  have e3 : c = c' := by omega
  rw [e1, e2, e3]
theorem ltT_asymm {x y : T3} (h : ltT x y = true) : ltT y x = false := by
  cases q : ltT y x with
  | false => rfl
  | true => have := ltT_trans h q; rw [ltT_irrefl] at this; cases this
/-- not behind -/
def leT (x y : T3) : Bool := !ltT y x
theorem leT_trans (x y z : T3) (h1 : leT x y = true) (h2 : leT y z = true) : leT x z = true := by
  unfold leT at *
  simp only [Bool.not_eq_true'] at *
  cases q : ltT z x with
  | false => rfl
  | true =>
    cases r : ltT x y with
    | true => have := ltT_trans q r; rw [this] at h2; cases h2
    | false =>
      have := ltT_total r h1
      rw [this] at q
      rw [q] at h2; cases h2
theorem leT_total (x y : T3) : (leT x y || leT y x) = true := by
  unfold leT
  cases q : ltT y x with
  | false => rfl
  | true => rw [ltT_asymm q]; rfl
section
variable {X : Cx}
theorem each_tups {pins : List (Addr × Obj)} {σ : L2.St} {H : Hp} {s : Shared} (I : Inv X pins σ H s) : ∀ {bs : List (Addr × T3)} {us : List Value}, TupsAt X.K H bs → Vals (rf bs) us →
    PySem.W.EachIs (fun v (b : Addr × T3) => v = Value.ref b.1) us bs ∧ PySem.W.EachIs (fun v (b : Addr × T3) => ∃ as, Reads s.heap v (d3 b.2) as) us bs
  | [], us, _, r => by cases r; exact ⟨.nil, .nil⟩
  | b :: bs, us, h, r => by
    cases r with
    | cons r1 r2 =>
      have e := r1
      cases e
      obtain ⟨p, q⟩ := each_tups I (fun c hc => h c (List.mem_cons_of_mem _ hc)) r2
      exact ⟨.cons rfl p, .cons (Dp.reads I _ _ _ (dp_tv (h b List.mem_cons_self)) rfl) q⟩
theorem vals_rf : ∀ bs : List (Addr × T3), Vals (rf bs) (bs.map fun b => Value.ref b.1)
  | [] => .nil
  | _ :: r => .cons rfl (vals_rf r)
theorem reads_d3 {h : Heap} {v : Value} {t : T3} {as : List Addr} (r : Reads h v (d3 t) as) : as = [] := by
  cases r with
  | @tuple _ _ vs _ _ _ h1 h2 h3 h4 =>
    generalize vs.toList = l at h4
    cases h4 with
    | cons a1 b1 =>
      cases a1
      cases b1 with
      | cons a2 b2 =>
        cases a2
        cases b2 with
        | cons a3 b3 =>
          cases a3
          cases b3
          rfl
theorem vals_each : ∀ {bs : List (Addr × T3)} {us : List Value}, PySem.W.EachIs (fun v (b : Addr × T3) => v = Value.ref b.1) us bs → Vals (rf bs) us
  | _, _, .nil => .nil
  | _, _, .cons h t => .cons h (vals_each t)
/-- the order of the sort -/
def lb (x y : Addr × T3) : Bool := leT x.2 y.2
theorem dataLe_lb : PySem.W.dataLe false (fun b : Addr × T3 => d3 b.2) = lb := by
  funext p q
  show (!PySem.W.dataLt (d3 q.2) (d3 p.2)) = _
  rw [dataLt_d3]; rfl
/-- sorted(xs), xs a list of tuples of three ints -/
def rSortT3 (K : PySem.W.Frag) : List V → Hp → VK → Prop := fun vs H Q => ∃ (a : Addr) (bs : List (Addr × T3)), vs = [V.ref a] ∧ SqL K H a (rf bs) ∧ TupsAt K H bs ∧ bs.length ≤ 100000 ∧
  ∀ p, H p = none → Q (.ref p) (upd H p (.lst (rf (bs.mergeSort lb))))
theorem cr_sortT3 (hr : X.A.units + 64 < cLine) : CallR X (.builtin "sorted") (rSortT3 X.K) := by
  intro pins s σ H vs us Q I r h
  obtain ⟨a, bs, rfl, hs, ht, hl, q⟩ := h
  obtain ⟨its, rv, hp, hz⟩ := I.list hs
  rw [Vals.ref1 r]
  obtain ⟨e1, e2⟩ := each_tups I ht rv
  have hsz : (100000 : Nat) ≤ sizeLine := by decide
  refine PySem.W.sorted_data (R := fun v (b : Addr × T3) => v = Value.ref b.1) (enc := fun b => d3 b.2) hp.isList e1 e2 (PySem.W.AllAlike.of fun _ _ => d3_alike _ _) (PySem.W.Sortable.tuples fun b => ⟨_, _, rfl⟩) (by omega) (fun b _ => by rw [d3_depth]; omega) fun out ho eo => ?_
  obtain ⟨ep, he'⟩ := PyProof.Rows.sortedAll_at s.heap its (List.toArray out)
  rw [dataLe_lb] at eo
  refine ⟨.ref _, upd H (s.heap.objs.size + 1) (.lst (rf (bs.mergeSort lb))), I.laid (t' := s.toks) (fun _ _ => PyProof.Rows.sortedAll_old) (Nat.le_succ _) ⟨?_, out, ep, vals_each eo, he'⟩, rfl, q _ (I.hok.fresh (Nat.le_succ _))⟩
  rw [List.length_map, List.length_mergeSort]
  omega
/-- sorted(d), d a dict whose keys are tuples of three ints -/
theorem cr_sortKT (hr : X.A.units + 64 < cLine) (hc : X.calm = true) : CallR X (.builtin "sorted") (fun vs H Q => ∃ (d : Addr) (kvs : List (List L2.Key × V)) (ts : List T3), vs = [V.ref d] ∧ Rd H d (.dT kvs) ∧ kvs.map (·.1) = ts.map (fun t => [Sum.inl t.1, Sum.inl t.2.1, Sum.inl t.2.2]) ∧ ts.length ≤ 100000 ∧
    ∀ p bs, H p = none → bs.map (·.2) = ts → TupsAt X.K H bs → (∀ b ∈ bs, H b.1 = some (.tup (tv b.2))) → Q (.ref p) (upd H p (.lst (rf (bs.mergeSort lb))))) := by
  intro pins s σ H vs us Q I r h
  obtain ⟨d, kvs, ts, rfl, hd, hk, hl, q⟩ := h
  obtain ⟨u, rfl, rx⟩ := r.one
  cases rx
  obtain ⟨z, hs, ks, pr, o, es, ep, ho, hx, hdt, he, hn⟩ := (show ObjOk X.prog X.w H s.heap d (.dT kvs) from hd.ok I.hok)
  have l1 : es.size = ks.length := size_of_entries he
  have l2 : kvs.length = ks.length := Paired.length pr
  have l3 : ts.length = kvs.length := by
    have := congrArg List.length hk
    simp at this
    omega
  have hsz : (100000 : Nat) ≤ sizeLine := by decide
  -- the keys' own tuples
  have ik := isKeys_of pr
  have mk : ∀ (ts : List T3) (kvs : List (List L2.Key × V)) (as : List Addr), kvs.map (·.1) = ts.map (fun t => [Sum.inl t.1, Sum.inl t.2.1, Sum.inl t.2.2]) → IsKeys H kvs as → (as.zip ts).map (·.2) = ts ∧ (as.zip ts).map (·.1) = as ∧ ∀ b ∈ as.zip ts, H b.1 = some (.tup (tv b.2)) := by
    intro ts
    induction ts with
    | nil =>
      intro kvs as e i
      have : kvs = [] := by simpa using e
      subst this
      cases i
      simp
    | cons t ts ih =>
      intro kvs as e i
      cases i with
      | nil => simp at e
      | cons h1 h2 =>
        rename_i p b kvs as
        simp only [List.map_cons, List.cons.injEq] at e
        obtain ⟨g1, g2, g3⟩ := ih _ _ e.2 h2
        refine ⟨by simp [g1], by simp [g2], fun c hc => ?_⟩
        rcases List.mem_cons.mp (show c ∈ (b, t) :: as.zip ts from hc) with rfl | hc
        · rw [h1, e.1]; rfl
        · exact g3 c hc
  obtain ⟨b1, b2, b3⟩ := mk ts kvs (ks.map fun x => x.2.1) hk ik
  generalize hbs : (ks.map fun x => x.2.1).zip ts = bs at b1 b2 b3
  have ht : TupsAt X.K H bs := fun b hb => SqT.of (b3 b hb)
  refine Calls.call_function_entry kind_sorted plain_sorted entry_sorted (args_sorted1 _) ?_
  unfold Builtin.«sorted»
  refine wpAny_bind (m := checkCount "sorted" 1 1 _) (wpAny_pure ?_)
  refine wpAny_bind (PySem.W.kdu_collect (A := X.A.in1) (kdl_raw hs hx hdt) (I.ok.hd hc) ho (by omega) fun h' tk acc hk' hacc => ?_)
  have ea : acc.toList = (ks.map fun x => x.2.1).map Value.ref := by
    have hl' : acc.toList.length = ks.length := by rw [Array.length_toList, hacc.1]; exact l1
    apply List.ext_getElem?
    intro j
    rw [List.map_map, List.getElem?_map]
    cases hj : acc.toList[j]? with
    | none =>
      have h1 := List.getElem?_eq_none_iff.mp hj
      rw [List.getElem?_eq_none (by omega)]
      rfl
    | some v =>
      obtain ⟨en, hen, hv⟩ := hacc.2 j v (by rw [← Array.getElem?_toList]; exact hj)
      have qe := entry_at he j
      rw [hen] at qe
      cases hb : ks[j]? with
      | none => rw [hb] at qe; exact nomatch (show some en = none from qe)
      | some b =>
        rw [hb] at qe
        have e2 : en = entryOfKey (tupleKind (mixKind X.prog X.w)) b := Option.some.inj qe
        rw [hv, e2]
        rfl
  have ebs : acc.toList = bs.map fun b => Value.ref b.1 := by rw [ea, ← b2, List.map_map]; rfl
  have lbs : bs.length = ts.length := by rw [← b1, List.length_map]
  refine wpAny_bind (wpAny_newList ?_ (by rw [ebs, List.length_map, lbs]; omega))
  have I1 : Inv X pins σ H { s with heap := h', toks := tk } := I.kept hk'
  have rv : Vals (rf bs) acc.toList := by
    rw [ebs]
    exact vals_rf bs
  have hn0 : H h'.objs.size = none := I1.hok.fresh (Nat.le_refl _)
  have I2 : Inv X pins σ (upd H h'.objs.size (.lst (rf bs))) { s with heap := h'.push { cls := .type "list", data := .seq acc.toList.toArray }, toks := tk } :=
    I1.laid (t' := tk) (fun b u e => Heap.get?_push_of_some _ e) (Nat.le_refl _) ⟨by rw [List.length_map, lbs]; omega, acc.toList, 0, rv, Heap.get?_push_size _ rfl⟩
  have ht2 : TupsAt X.K (upd H h'.objs.size (.lst (rf bs))) bs := fun b hb => same_tup (same_new hn0) (ht b hb)
  obtain ⟨e1, e2⟩ := each_tups I2 ht2 rv
  have hat : (h'.push { cls := .type "list", data := .seq acc.toList.toArray }).get? h'.objs.size = some (PyProof.Rows.seqObj "list" acc.toList.toArray 0) := Heap.get?_push_size _ rfl
  have e3 : PySem.W.EachIs (fun v (b : Addr × T3) => ∃ as, Reads (h'.push { cls := .type "list", data := .seq acc.toList.toArray }) v (d3 b.2) as ∧ h'.objs.size ∉ as) acc.toList bs := by
    obtain ⟨f1, f2⟩ := each_tups I1 ht rv
    refine e2.mono fun v b ⟨as, g⟩ => ⟨as, g, ?_⟩
    rw [reads_d3 g]
    simp
  refine wpAny_bind (wpAny_holding (PySem.W.list_sort_data (R := fun v (b : Addr × T3) => v = Value.ref b.1) (enc := fun b => d3 b.2) hat e1 e3 (PySem.W.AllAlike.of fun _ _ => d3_alike _ _) (PySem.W.Sortable.tuples fun b => ⟨_, _, rfl⟩) (by omega)
    (fun b _ => by rw [d3_depth]; show X.A.units + 1 + 1 + 1 < _; omega) fun out hout eo => ?_))
  rw [dataLe_lb] at eo
  obtain ⟨ep', he'⟩ := PyProof.Rows.sortedHeap_at (vs := acc.toList) (out := List.toArray out) hat
  refine wpAny_pure ⟨_, rfl, .ref h'.objs.size, upd H h'.objs.size (.lst (rf (bs.mergeSort lb))), I1.laid (t' := tk) (fun b o g1 => ?_) (Nat.le_refl _) ⟨?_, out, ep', vals_each eo, he'⟩, rfl, q _ bs hn0 b1 ht b3⟩
  · have g2 : (h'.push { cls := .type "list", data := .seq acc.toList.toArray }).get? b = some o := Heap.get?_push_of_some _ g1
    exact (PyProof.Rows.sortedHeap_old (Nat.ne_of_lt (Heap.lt_size g1)) (Heap.lt_size g2)).trans g2
  · rw [List.length_map, List.length_mergeSort, lbs]
    omega
end
end G41
set_option Elab.async false
set_option linter.all false
set_option maxRecDepth 100000
set_option maxHeartbeats 4000000
namespace G41
open PySem PySem.Spec PyProof.Rows L2
section
variable {X : Cx}
/-! ### min of a list of tuples of three ints -/
theorem minD_d3 : ∀ (ts : List T3) (t : T3), PySem.W.minD (d3 t) (ts.map d3) = d3 (minT t ts)
  | [], t => rfl
  | u :: r, t => by
    have ih := minD_d3 r (if ltT u t = true then u else t)
    unfold PySem.W.minD at *
    rw [List.map_cons, List.foldl_cons, dataLt_d3]
    show _ = d3 (minT (if ltT u t = true then u else t) r)
    rw [← ih]
    by_cases h : ltT u t = true
    · rw [if_pos h, if_pos h]
    · rw [if_neg h, if_neg h]
theorem depth_all (ts : List T3) : PyData.depthAll (ts.map d3) ≤ 1 := by
  induction ts with
  | nil => simp [PyData.depthAll]
  | cons t r ih =>
    have h := d3_depth t
    simp only [List.map_cons, PyData.depthAll]
    omega
theorem alikeAll_d3 (ts : List T3) : PySem.W.AlikeAll (ts.map d3) := by
  refine ⟨fun x hx y hy => ?_, fun x hx => ?_⟩
  · obtain ⟨a, _, rfl⟩ := List.mem_map.mp hx
    obtain ⟨b, _, rfl⟩ := List.mem_map.mp hy
    exact d3_alike a b
  · obtain ⟨a, _, rfl⟩ := List.mem_map.mp hx
    simp [d3]
theorem d3_inj {t u : T3} (h : d3 t = d3 u) : t = u := by
  obtain ⟨a, b, c⟩ := t
  obtain ⟨a', b', c'⟩ := u
  simp only [d3, PyData.tuple.injEq, List.cons.injEq, PyData.int.injEq, and_true] at h
  obtain ⟨h1, h2, h3⟩ := h
  rw [h1, h2, h3]
theorem reads_fun {h : Heap} : ∀ {v : Value} {t u : T3} {as bs : List Addr}, Reads h v (d3 t) as → Reads h v (d3 u) bs → t = u := by
  intro v t u as bs r q
  refine d3_inj ?_
  have c1 : (d3 t).canLay0 = true := by rfl
  have c2 : (d3 u).canLay0 = true := by rfl
  rw [← SeqAt.readOf_eq c1 r, ← SeqAt.readOf_eq c2 q]
def rMinT3 (K : PySem.W.Frag) : List V → Hp → VK → Prop := fun vs H Q => ∃ (a : Addr) (b : Addr × T3) (bs : List (Addr × T3)), vs = [V.ref a] ∧ SqL K H a (rf (b :: bs)) ∧ TupsAt K H (b :: bs) ∧
  ∀ p, SqT K H p (tv (minT b.2 (bs.map (·.2)))) → Q (.ref p) H
theorem cr_minT3 (hr : X.A.units + 64 < cLine) (hc : X.calm = true) : CallR X (.builtin "min") (rMinT3 X.K) := by
  intro pins s σ H vs us Q I r h
  obtain ⟨a, b, bs, rfl, hs, ht, q⟩ := h
  obtain ⟨its, rv, hp, hz⟩ := I.list hs
  rw [Vals.ref1 r]
  obtain ⟨e1, e2⟩ := each_tups I ht rv
  obtain ⟨as, hra⟩ := Dp.readsAll I _ _ _ (dp_all ht) rv
  have em : ((b :: bs).map fun c => d3 c.2) = d3 b.2 :: (bs.map (·.2)).map d3 := by simp
  rw [em] at hra
  have ea : d3 b.2 :: (bs.map (·.2)).map d3 = (b.2 :: bs.map (·.2)).map d3 := rfl
  refine PySem.W.min_list_data (vs := its.toArray) (I.ok.hd hc) hp.isList (x := d3 b.2) (xs := (bs.map (fun c : Addr × T3 => c.2)).map d3) (by rw [List.toList_toArray]; exact hra) (alikeAll_d3 (b.2 :: bs.map (fun c : Addr × T3 => c.2))) (by have := depth_all (b.2 :: bs.map (·.2)); rw [← ea] at this; omega) fun i v h' tk cs hv hr' hk => ?_
  have I' : Inv X pins σ H { s with heap := h', toks := tk } := I.kept hk
  -- the item at i
  have hi : i < (b :: bs).length := by
    have h1 : i < its.length := by
      have := (Array.getElem?_eq_some_iff.mp hv).1
      simpa using this
    have h2 := rv.length
    rw [List.length_map] at h2
    omega
  obtain ⟨c, hc⟩ : ∃ c, (b :: bs)[i]? = some c := ⟨_, List.getElem?_eq_getElem hi⟩
  obtain ⟨u, hu, ru⟩ := rv.get (i := i) (x := V.ref c.1) (by rw [List.getElem?_map, hc]; rfl)
  have ev : u = v := by
    have : its[i]? = some v := by simpa using hv
    rw [hu] at this
    exact Option.some.inj this
  subst ev
  have hcm : c ∈ b :: bs := List.mem_of_getElem? hc
  obtain ⟨ds, hd⟩ := Dp.reads I' _ _ _ (dp_tv (ht c hcm)) ru
  have et : c.2 = minT b.2 (bs.map (·.2)) := by
    rw [minD_d3] at hr'
    exact reads_fun hd hr'
  refine ⟨.ref c.1, H, I', ru, q c.1 ?_⟩
  rw [← et]
  exact ht c hcm
/-! ### a comparison of four -/
def tChain3 (r1 r2 r3 : R2) (ta tb tc td : TE) : TE := fun σ H Q => ta σ H fun x H1 => tb σ H1 fun y H2 => r1 x y H2 fun z H3 => ∃ k, z = .bl k ∧
  (if k = true then tc σ H3 fun y2 H4 => r2 y y2 H4 fun z2 H5 => ∃ k2, z2 = .bl k2 ∧ (if k2 = true then td σ H5 fun y3 H6 => r3 y2 y3 H6 Q else Q (.bl false) H5) else Q (.bl false) H3)
theorem pe_chain3 {o1 o2 o3 : CmpOp} {r1 r2 r3 : R2} {a b c d : Expr} {ta tb tc td : TE} {pos : Pos} (h1 : OpR X (compareOp o1) r1) (h2 : OpR X (compareOp o2) r2) (h3 : OpR X (compareOp o3) r3) (ha : PE X a ta) (hb : PE X b tb) (hc : PE X c tc) (hd : PE X d td)
    (hm : lastMarks [o1, o2, o3] [b, c, d] = false := by with_unfolding_all rfl) : PE X (.Compare a [o1, o2, o3] [b, c, d] pos) (tChain3 r1 r2 r3 ta tb tc td) := by
  constructor
  intro pins s σ H Q I h
  apply Compare_chain _ hm
  apply thn (ha.run pins s σ H _ I h)
  rintro v sa ⟨x, Ha, Ia, rx, qa⟩
  apply chain_link
  apply thn (hb.run pins sa σ Ha _ Ia qa)
  rintro u sb ⟨y, Hb, Ib, ry, qb⟩
  apply thn (h1 pins sb σ Hb x y v u _ Ib rx ry qb)
  rintro z1 sc ⟨w1, Hc, Ic, rz1, k1, e1, qc⟩
  subst e1
  cases rz1
  apply wpAny_truthy_bool
  cases k1 with
  | false => exact ite_ff ⟨.bl false, Hc, Ic, rfl, qc⟩
  | true =>
    apply ite_tt
    apply chain_link
    apply thn (hc.run pins sc σ Hc _ Ic qc)
    rintro u2 sd ⟨y2, Hd, Id, ry2, qd⟩
    apply thn (h2 pins sd σ Hd y y2 u u2 _ Id ry ry2 qd)
    rintro z2 se ⟨w2, He, Ie, rz2, k2, e2, qe⟩
    subst e2
    cases rz2
    apply wpAny_truthy_bool
    cases k2 with
    | false => exact ite_ff ⟨.bl false, He, Ie, rfl, qe⟩
    | true =>
      apply ite_tt
      apply chain_last
      apply thn (hd.run pins se σ He _ Ie qe)
      rintro u3 sf ⟨y3, Hf, If, ry3, qf⟩
      exact h3 pins sf σ Hf y2 y3 u2 u3 Q If ry2 ry3 qf
end
end G41
set_option Elab.async false
set_option linter.all false
set_option maxRecDepth 100000
set_option maxHeartbeats 4000000
namespace G41
open PySem PySem.Spec PyProof.Rows L2
/-! ### a walk of known length, unrolled -/
def UnL (J : It) (g : TG) (tt : TT) (te : TE) (vs : List Nat) (σ : L2.St) (D : Addr) (Qd : Hp → Prop) : Nat → Nat → Hp → Prop
  | 0, i, H => J.stop i H ∧ Qd H
  | k + 1, i, H => J.go i H ∧ ∀ x H', J.yld i H x H' → g x (wipe σ vs) H' fun σ2 H2 => wipe σ2 vs = wipe σ vs ∧ tt σ2 H2 fun b H3 =>
    if b = true then te σ2 H3 fun y H4 => ∃ acc, H4 D = some (.lst acc) ∧ acc.length < sizeLine ∧ UnL J g tt te vs σ D Qd k (i + 1) (upd H4 D (.lst (acc ++ [y]))) else UnL J g tt te vs σ D Qd k (i + 1) H3
theorem un_lc {J : It} {g : TG} {tt : TT} {te : TE} {vs : List Nat} {σ : L2.St} {H1 : Hp} {D : Addr} {Qd : Hp → Prop} (n : Nat) (h : UnL J g tt te vs σ D Qd n 0 (upd H1 D (.lst []))) :
    ∃ W : Nat → Nat → Hp → Prop, (∃ m, W 0 m (upd H1 D (.lst []))) ∧ ∀ i m H, W i m H →
      (J.stop i H ∧ Qd H) ∨ (J.go i H ∧ ∃ Nx : Hp → Prop, (∀ H', Nx H' → ∃ m', m' < m ∧ W (i + 1) m' H') ∧ ∀ x H', J.yld i H x H' → g x (wipe σ vs) H' fun σ2 H2 => wipe σ2 vs = wipe σ vs ∧ tt σ2 H2 fun b H3 =>
        if b = true then te σ2 H3 fun y H4 => ∃ acc, H4 D = some (.lst acc) ∧ acc.length < sizeLine ∧ Nx (upd H4 D (.lst (acc ++ [y]))) else Nx H3) := by
  refine ⟨fun i m H => UnL J g tt te vs σ D Qd m i H, ⟨n, h⟩, fun i m H w => ?_⟩
  cases m with
  | zero => exact .inl w
  | succ k => exact .inr ⟨w.1, fun H' => UnL J g tt te vs σ D Qd k (i + 1) H', fun H' q => ⟨k, Nat.lt_succ_self _, q⟩, w.2⟩
def UnF (J : It) (g : TG) (tb : TS) (D : Ends) : Nat → Nat → L2.St → Hp → Prop
  | 0, i, σ, H => J.stop i H ∧ D.nx σ H
  | k + 1, i, σ, H => J.go i H ∧ ∀ x H', J.yld i H x H' → g x σ H' fun σ2 H2 => tb { D with nx := UnF J g tb D k (i + 1), ct := UnF J g tb D k (i + 1), bk := D.nx } σ2 H2
theorem un_for {J : It} {g : TG} {tb : TS} {D : Ends} {σ : L2.St} {H : Hp} (n : Nat) (h : UnF J g tb D n 0 σ H) :
    ∃ W : Nat → Nat → L2.St → Hp → Prop, (∃ m, W 0 m σ H) ∧ ∀ i m σ H, W i m σ H →
      (J.stop i H ∧ D.nx σ H) ∨ (J.go i H ∧ ∃ N : L2.St → Hp → Prop, (∀ σ' H', N σ' H' → ∃ m', m' < m ∧ W (i + 1) m' σ' H') ∧ ∀ x H', J.yld i H x H' → g x σ H' fun σ2 H2 => tb { D with nx := N, ct := N, bk := D.nx } σ2 H2) := by
  refine ⟨fun i m σ H => UnF J g tb D m i σ H, ⟨n, h⟩, fun i m σ H w => ?_⟩
  cases m with
  | zero => exact .inl w
  | succ k => exact .inr ⟨w.1, UnF J g tb D k (i + 1), fun σ' H' q => ⟨k, Nat.lt_succ_self _, q⟩, w.2⟩
section
variable {K : PySem.W.Frag} {a b : Addr} {xs ys : List V} {i n : Nat} {lo : Int} {H : Hp} {x y : V}
/-- the next item of a list, a tuple, a range -/
theorem nx_list {R : V → Hp → Prop} (h : SqL K H a xs) (hx : xs[i]? = some x) (q : R x H) : (Itl K a).go i H ∧ ∀ z H', (Itl K a).yld i H z H' → R z H' :=
  ⟨⟨xs, x, h, hx⟩, fun z H' y => by
    obtain ⟨rfl, e⟩ := y
    have := e xs h
    rw [hx] at this
    cases this
    exact q⟩
theorem nx_tup {R : V → Hp → Prop} (h : SqT K H a xs) (hx : xs[i]? = some x) (q : R x H) : (Itt K a).go i H ∧ ∀ z H', (Itt K a).yld i H z H' → R z H' :=
  ⟨⟨xs, x, h, hx⟩, fun z H' y => by
    obtain ⟨rfl, e⟩ := y
    have := e xs h
    rw [hx] at this
    cases this
    exact q⟩
theorem nx_range {R : V → Hp → Prop} (hi : i < n) (q : R (.int (lo + i)) H) : (Itr lo n).go i H ∧ ∀ z H', (Itr lo n).yld i H z H' → R z H' :=
  ⟨hi, fun z H' y => by
    obtain ⟨rfl, rfl⟩ := y
    exact q⟩
theorem st_list (h : SqL K H a xs) {P : Prop} (hn : xs.length ≤ i) (q : P) : (Itl K a).stop i H ∧ P := ⟨⟨xs, h, hn⟩, q⟩
theorem st_tup (h : SqT K H a xs) {P : Prop} (hn : xs.length ≤ i) (q : P) : (Itt K a).stop i H ∧ P := ⟨⟨xs, h, hn⟩, q⟩
theorem st_range {P : Prop} (hn : n ≤ i) (q : P) : (Itr lo n).stop i H ∧ P := ⟨hn, q⟩
theorem nx_zip {R : V → Hp → Prop} (h : SqL K H a xs) (h2 : SqL K H b ys) (hx : xs[i]? = some x) (hy : ys[i]? = some y) (q : ∀ T, H T = none → R (.ref T) (upd H T (.tup [x, y]))) :
    (Itz K a b).go i H ∧ ∀ z H', (Itz K a b).yld i H z H' → R z H' :=
  ⟨⟨xs, ys, x, y, h, h2, hx, hy⟩, fun z H' yl => by
    obtain ⟨T, u, v, rfl, hT, rfl, e1, e2⟩ := yl
    have e1 := e1 xs h
    have e2 := e2 ys h2
    rw [hx] at e1
    rw [hy] at e2
    cases e1
    cases e2
    exact q T hT⟩
theorem st_zip (h : SqL K H a xs) (h2 : SqL K H b ys) {P : Prop} (hn : xs.length ≤ i) (q : P) : (Itz K a b).stop i H ∧ P := ⟨⟨xs, ys, h, h2, .inl hn⟩, q⟩
theorem nx_zipT {R : V → Hp → Prop} (h : SqT K H a xs) (h2 : SqT K H b ys) (hx : xs[i]? = some x) (hy : ys[i]? = some y) (q : ∀ T, H T = none → R (.ref T) (upd H T (.tup [x, y]))) :
    (RZ.ItzT K a b).go i H ∧ ∀ z H', (RZ.ItzT K a b).yld i H z H' → R z H' :=
  ⟨⟨xs, ys, x, y, h, h2, hx, hy⟩, fun z H' yl => by
    obtain ⟨T, u, v, rfl, hT, rfl, e1, e2⟩ := yl
    have e1 := e1 xs h
    have e2 := e2 ys h2
    rw [hx] at e1
    rw [hy] at e2
    cases e1
    cases e2
    exact q T hT⟩
theorem st_zipT (h : SqT K H a xs) (h2 : SqT K H b ys) {P : Prop} (hn : xs.length ≤ i) (q : P) : (RZ.ItzT K a b).stop i H ∧ P := ⟨⟨xs, ys, h, h2, .inl hn⟩, q⟩
end
/-! ### zip(list, tuple) -/
def ItzM (K : PySem.W.Frag) (a b : Addr) : It :=
  ⟨fun i H => ∃ (xs ys : List V) (x y : V), SqL K H a xs ∧ SqT K H b ys ∧ xs[i]? = some x ∧ ys[i]? = some y,
    fun i H v H' => ∃ T x y, v = .ref T ∧ H T = none ∧ H' = upd H T (.tup [x, y]) ∧ (∀ xs, SqL K H a xs → xs[i]? = some x) ∧ ∀ ys, SqT K H b ys → ys[i]? = some y,
    fun i H => ∃ xs ys : List V, SqL K H a xs ∧ SqT K H b ys ∧ xs.length = i ∧ ys.length = i⟩
theorem nx_zipM {K : PySem.W.Frag} {a b : Addr} {xs ys : List V} {i : Nat} {H : Hp} {x y : V} {R : V → Hp → Prop} (h : SqL K H a xs) (h2 : SqT K H b ys) (hx : xs[i]? = some x) (hy : ys[i]? = some y) (q : ∀ T, H T = none → R (.ref T) (upd H T (.tup [x, y]))) :
    (ItzM K a b).go i H ∧ ∀ z H', (ItzM K a b).yld i H z H' → R z H' :=
  ⟨⟨xs, ys, x, y, h, h2, hx, hy⟩, fun z H' yl => by
    obtain ⟨T, u, v, rfl, hT, rfl, e1, e2⟩ := yl
    have e1 := e1 xs h
    have e2 := e2 ys h2
    rw [hx] at e1
    rw [hy] at e2
    cases e1
    cases e2
    exact q T hT⟩
theorem st_zipM {K : PySem.W.Frag} {a b : Addr} {xs ys : List V} {i : Nat} {H : Hp} (h : SqL K H a xs) (h2 : SqT K H b ys) {P : Prop} (hn : xs.length = i) (hn2 : ys.length = i) (q : P) : (ItzM K a b).stop i H ∧ P := ⟨⟨xs, ys, h, h2, hn, hn2⟩, q⟩
theorem nmem2 {x y z : Nat} (h1 : x ≠ y) (h2 : x ≠ z) : x ∉ [y, z] := by simp [h1, h2]
theorem sepM {n a b : Nat} (ha : a < n) (hb : b < n) : ZipSep2 (n + 4) (n + 2) (n + 3) n (n + 1) [n, a] [n + 1, b] :=
  ⟨(by omega : (n + 2 : Nat) ≠ n + 4), (by omega : (n + 3 : Nat) ≠ n + 4), (by omega : (n + 2 : Nat) ≠ n + 3), (by omega : (n + 2 : Nat) ≠ n), by simp, nmem2 (by omega) (by omega), nmem2 (by omega) (by omega),
    (by omega : (n + 2 : Nat) ≠ n + 1), by simp, nmem2 (by omega) (by omega), nmem2 (by omega) (by omega), nmem2 (by omega) (by omega), nmem2 (by omega) (by omega)⟩
theorem turn_zipM {P : Program} {w : World} {K : PySem.W.Frag} {elts : List Expr} {kk : Nat} {tpos : Pos} {a b z TI TO i1 i2 : Addr} (D : ZipSep2 z TI TO i1 i2 [i1, a] [i2, b]) :
    Turn P w K (.Tuple elts kk tpos) (ItzM K a b) [z, TI, TO, i1, i2] z (fun i h => IsZip h z TI TO .none ∧ IsTupOf2 h TI (.ref i1) (.ref i2) ∧ (∃ x y, IsTupOf2 h TO x y) ∧ h.IsListIter i1 a i ∧ h.IsTupleIter i2 b i) where
  mem := by simp
  obj := fun i h st c hc => by
    obtain ⟨hz, hTI, ⟨x, y, hTO⟩, ⟨o1, e1, _, d1⟩, ⟨o2, e2, _, d2⟩⟩ := st
    have e' : c = z ∨ c = TI ∨ c = TO ∨ c = i1 ∨ c = i2 := by simpa using hc
    rcases e' with q | q | q | q | q
    · rw [q]; exact ⟨_, hz, fun v q => nomatch q⟩
    · rw [q]; exact ⟨_, hTI, fun v q => nomatch q⟩
    · rw [q]; exact ⟨_, hTO, fun v q => nomatch q⟩
    · rw [q]; exact ⟨o1, e1, fun v q => by rw [d1] at q; cases q⟩
    · rw [q]; exact ⟨o2, e2, fun v q => by rw [d2] at q; cases q⟩
  keep := fun i h h' st k => by
    obtain ⟨hz, hTI, ⟨x, y, hTO⟩, h1, h2⟩ := st
    exact ⟨k z (by simp) _ hz, k TI (by simp) _ hTI, ⟨x, y, k TO (by simp) _ hTO⟩, h1.at fun o q => k i1 (by simp) o q, h2.at fun o q => k i2 (by simp) o q⟩
  item := by
    intro X hP hw hK hc i pins s σ H E I hf st hg
    subst hP hw hK
    obtain ⟨hz, hTI, ⟨x0, y0, hTO⟩, h1, h2⟩ := st
    obtain ⟨xs, ys, x, y, hqx, hqy, hx, hy⟩ := hg
    obtain ⟨its, rv, p, _⟩ := I.list hqx
    obtain ⟨its2, rv2, p2, _⟩ := I.tuple hqy
    obtain ⟨u, hu, ru⟩ := rv.get hx
    obtain ⟨u2, hu2, ru2⟩ := rv2.get hy
    have hzl : z < s.heap.objs.size := Heap.lt_size hz
    have n1 : a ≠ i1 := fun e => by
      obtain ⟨o, e1, c1, _⟩ := h1
      obtain ⟨o2, e2, c2, _⟩ := p.isList
      rw [e, e1] at e2
      cases e2
      rw [c1] at c2
      exact absurd c2 (by decide)
    have n2 : b ≠ i2 := fun e => by
      obtain ⟨o, e1, c1, _⟩ := h2
      obtain ⟨o2, e2, c2, _⟩ := p2
      rw [e, e1] at e2
      cases e2
      rw [c1] at c2
      exact absurd c2 (by decide)
    have k1 : i < its.toArray.size := (Array.getElem?_eq_some_iff.mp (show its.toArray[i]? = some u by simpa using hu)).1
    have k2 : i < its2.toArray.size := (Array.getElem?_eq_some_iff.mp (show its2.toArray[i]? = some u2 by simpa using hu2)).1
    refine wpAny_pyNext_zipD2_item D (Draws.list (show X.A.in1.handled = none from I.ok.hd hc) i1 a n1 its.toArray) (Draws.tuple (show X.A.in1.handled = none from I.ok.hd hc) i2 b n2 its2.toArray) hz hTI hTO ⟨h1, p.isList⟩ ⟨h2, p2⟩ k1 k2 fun x1 x2 h' tk y1 y2 z' TO' s1' s2' hT hsz hk => ?_
    have e1 : x1 = u := by
      have : its.toArray[i]? = some x1 := y1
      rw [show its.toArray[i]? = some u by simpa using hu] at this
      exact (Option.some.inj this).symm
    have e2 : x2 = u2 := by
      have : its2.toArray[i]? = some x2 := y2
      rw [show its2.toArray[i]? = some u2 by simpa using hu2] at this
      exact (Option.some.inj this).symm
    subst e1 e2
    have h1' := s1'.1
    have h2' := s2'.1
    refine ⟨_, rfl, wpAny_letOwnedTupleGo_zip (s := { s with heap := h', toks := tk }) z' fun h'' z'' sb => ?_⟩
    have hT2 : h''.get? s.heap.objs.size = some { cls := .type "tuple", data := .seq #[x1, x2] } := (sb.2 _ (Nat.ne_of_gt hzl)).trans hT
    have new : ObjOk X.prog X.w (upd H s.heap.objs.size (.tup [x, y])) h'' s.heap.objs.size (.tup [x, y]) :=
      ⟨by show 2 ≤ sizeLine; decide, [x1, x2], .cons ru (.cons ru2 .nil), ⟨_, hT2, rfl, _, rfl⟩⟩
    have I1 : Inv X pins σ (upd H s.heap.objs.size (.tup [x, y])) { s with heap := h'', toks := tk } :=
      I.turnedNew (t' := tk) (ch := [z, TI, TO, i1, i2]) (fun c o hb q => (sb.2 c (fun q' => hb (by simp [q']))).trans (hk c o (fun q' => hb (by simp [q'])) (fun q' => hb (by simp [q'])) (fun q' => hb (by simp [q'])) (fun q' => hb (by simp [q'])) q)) hf (Nat.le_refl _) new
    refine ⟨.ref s.heap.objs.size, _, I1, rfl, ⟨_, x, y, rfl, I.hok.fresh (Nat.le_refl _), rfl, fun l hl => by rw [I.list_inj hl hqx]; exact hx, fun l hl => by rw [I.tuple_inj hl hqy]; exact hy⟩, ⟨z'', ?_, ⟨x1, x2, ?_⟩, ?_, ?_⟩, fun c hcm => ?_⟩
    · exact (sb.2 _ D.TIz).trans (hk _ _ D.TIz D.TITO D.TIi1 D.TIi2 hTI)
    · exact (sb.2 _ D.TOz).trans TO'
    · exact h1'.at fun o q => (sb.2 _ D.zi1.symm).trans q
    · exact h2'.at fun o q => (sb.2 _ D.zi2.symm).trans q
    · have hlt : c < s.heap.objs.size := by
        have e' : c = z ∨ c = TI ∨ c = TO ∨ c = i1 ∨ c = i2 := by simpa using hcm
        rcases e' with q | q | q | q | q
        · rw [q]; exact hzl
        · rw [q]; exact Heap.lt_size hTI
        · rw [q]; exact Heap.lt_size hTO
        · rw [q]; obtain ⟨_, e1, _⟩ := h1; exact Heap.lt_size e1
        · rw [q]; obtain ⟨_, e2, _⟩ := h2; exact Heap.lt_size e2
      rw [upd_ne (Nat.ne_of_lt hlt)]
      exact (hf c hcm).1
  done := by
    intro X hP hw hK hc i pins s σ H E I hf st hg
    subst hP hw hK
    obtain ⟨hz, hTI, ⟨x0, y0, hTO⟩, h1, h2⟩ := st
    obtain ⟨xs, ys, hqx, hqy, l1', l2'⟩ := hg
    obtain ⟨its, rv, p, _⟩ := I.list hqx
    obtain ⟨its2, rv2, p2, _⟩ := I.tuple hqy
    have l1 := rv.length
    have l2 := rv2.length
    have n1 : a ≠ i1 := fun e => by
      obtain ⟨o, e1, c1, _⟩ := h1
      obtain ⟨o2, e2, c2, _⟩ := p.isList
      rw [e, e1] at e2
      cases e2
      rw [c1] at c2
      exact absurd c2 (by decide)
    have n2 : b ≠ i2 := fun e => by
      obtain ⟨o, e1, c1, _⟩ := h2
      obtain ⟨o2, e2, c2, _⟩ := p2
      rw [e, e1] at e2
      cases e2
      rw [c1] at c2
      exact absurd c2 (by decide)
    have s1 : i = its.toArray.size := by simp; omega
    have s2 : i = its2.toArray.size := by simp; omega
    exact wpAny_pyNext_zipD2_end D (Draws.list (show X.A.in1.handled = none from I.ok.hd hc) i1 a n1 its.toArray) (Draws.tuple (show X.A.in1.handled = none from I.ok.hd hc) i2 b n2 its2.toArray) hz hTI hTO ⟨h1, p.isList⟩ ⟨h2, p2⟩ (Nat.le_of_eq s1) (Nat.le_of_eq s2) (.inl s1) fun h' tk hk => ⟨rfl, I.turnedL (t' := tk) (ch := [z, TI, TO, i1, i2]) (fun c o hb q =>
      hk c o (fun q' => hb (by simp [q'])) (fun q' => hb (by simp [q'])) (fun q' => hb (by simp [q'])) (fun q' => hb (by simp [q'])) q) hf⟩
  self := fun A i s Q E st h => wpAny_pyIter_zip st.1 h
def iZipM (K : PySem.W.Frag) (ta : TA) : TI := fun σ H R => ta σ H fun vs H1 => ∃ a b xs ys, vs = [.ref a, .ref b] ∧ SqL K H1 a xs ∧ SqT K H1 b ys ∧ R (ItzM K a b) H1
theorem pi_zipM {X : Cx} {e e2 : Expr} {ta : TA} {p pos tpos : Pos} {elts : List Expr} {kk : Nat} (hg : Gl X "zip") (hm : X.mg "zip" = none) (ha : PA X [e, e2] ta)
    (hs : starEach [e, e2] X.env = (false, eval e X.env) :: starEach [e2] X.env := by rfl) (hpl : (backTo pos (starEach [e2] X.env)).any (·.1) = false := by rfl) :
    PI X (.Tuple elts kk tpos) (.Call (.Name "zip" p) [e, e2] [] pos) (iZipM X.K ta) := by
  refine ⟨fun pins s σ H R I h => ?_⟩
  refine Call_ (ld_blt I hg hm PyProof.Rows.boot_zip (PyProof.Rows.callWith_type1 (thn (ha.run pos pins s σ H _ I h) fun us s1 ⟨vs, H1, I1, r1, q1⟩ => ?_) hs hpl))
  obtain ⟨a, b, xs, ys, ex, hqx, hqy, q⟩ := q1
  subst ex
  cases r1 with
  | cons r rr =>
    cases rr with
    | cons r' rr =>
      cases rr
      cases r
      cases r'
      have fresh5 : ∀ c, c ∈ [s1.heap.objs.size + 4, s1.heap.objs.size + 2, s1.heap.objs.size + 3, s1.heap.objs.size, s1.heap.objs.size + 1] → FpOk X pins H1 c := fun c hcm => by
        have e' : c = s1.heap.objs.size + 4 ∨ c = s1.heap.objs.size + 2 ∨ c = s1.heap.objs.size + 3 ∨ c = s1.heap.objs.size ∨ c = s1.heap.objs.size + 1 := by simpa using hcm
        have hle : s1.heap.objs.size ≤ c := by
          rcases e' with z | z | z | z | z
          · rw [z]; exact Nat.le_add_right _ _
          · rw [z]; exact Nat.le_add_right _ _
          · rw [z]; exact Nat.le_add_right _ _
          · rw [z]; exact Nat.le_refl _
          · rw [z]; exact Nat.le_add_right _ _
        exact I1.fpOk hle (I1.hok.fresh hle)
      obtain ⟨its, rv, p1, _⟩ := I1.list hqx
      obtain ⟨its2, rv2, p2, _⟩ := I1.tuple hqy
      obtain ⟨o2, ho2, _⟩ := id p2
      refine zip_begins2 (begins_list a its.toArray) (begins_tuple b its2.toArray) p1.isList p2 fun h' hz hTI hTO h1 h2 hsz hk => wpAny_pyIter_zip hz ?_
      have I2 : Inv X pins σ H1 { s1 with heap := h' } := I1.kept (t' := s1.toks) hk
      exact ⟨s1.heap.objs.size + 4, [s1.heap.objs.size + 4, s1.heap.objs.size + 2, s1.heap.objs.size + 3, s1.heap.objs.size, s1.heap.objs.size + 1], _, _, H1, rfl, I2, turn_zipM (sepM p1.lt (Heap.lt_size ho2)), ⟨hz, hTI, ⟨_, _, hTO⟩, ⟨_, h1, rfl, rfl⟩, ⟨_, h2, rfl, rfl⟩⟩, fresh5, q⟩
/-! ### enumerate(tuple) -/
def IteT (K : PySem.W.Frag) (a : Addr) : It :=
  ⟨fun i H => ∃ (xs : List V) (x : V), SqT K H a xs ∧ xs[i]? = some x, fun i H v H' => ∃ T x, v = .ref T ∧ H T = none ∧ H' = upd H T (.tup [.int (i : Nat), x]) ∧ ∀ xs, SqT K H a xs → xs[i]? = some x, fun i H => ∃ xs : List V, SqT K H a xs ∧ xs.length = i⟩
theorem nx_enumT {K : PySem.W.Frag} {a : Addr} {xs : List V} {i : Nat} {H : Hp} {x : V} {R : V → Hp → Prop} (h : SqT K H a xs) (hx : xs[i]? = some x) (q : ∀ T, H T = none → R (.ref T) (upd H T (.tup [.int (i : Nat), x]))) :
    (IteT K a).go i H ∧ ∀ z H', (IteT K a).yld i H z H' → R z H' :=
  ⟨⟨xs, x, h, hx⟩, fun z H' yl => by
    obtain ⟨T, u, rfl, hT, rfl, e1⟩ := yl
    have e1 := e1 xs h
    rw [hx] at e1
    cases e1
    exact q T hT⟩
theorem st_enumT {K : PySem.W.Frag} {a : Addr} {xs : List V} {i : Nat} {H : Hp} (h : SqT K H a xs) {P : Prop} (hn : xs.length = i) (q : P) : (IteT K a).stop i H ∧ P := ⟨⟨xs, h, hn⟩, q⟩
theorem turn_enumT {P : Program} {w : World} {K : PySem.W.Frag} {elts : List Expr} {kk : Nat} {tpos : Pos} (a e it : Addr) (hae : a ≠ e) :
    Turn P w K (.Tuple elts kk tpos) (IteT K a) [e, it] e (fun i h => (∃ old, IsEnum h e it ((i : Nat) : Int) old) ∧ h.IsTupleIter it a i ∧ e ≠ it) where
  mem := by simp
  obj := fun i h st b hb => by
    obtain ⟨⟨old, he⟩, ⟨o, ho, hc, hd⟩, _⟩ := st
    have e' : b = e ∨ b = it := by simpa using hb
    rcases e' with z | z
    · rw [z]; exact ⟨_, he, fun v q => nomatch q⟩
    · rw [z]; exact ⟨o, ho, fun v q => by rw [hd] at q; cases q⟩
  keep := fun i h h' st k => let ⟨⟨old, he⟩, hi, hne⟩ := st; ⟨⟨old, k e (by simp) _ he⟩, hi.at fun o q => k it (by simp) o q, hne⟩
  item := by
    intro X hP hw hK hc i pins s σ H E I hf st hg
    subst hP hw hK
    obtain ⟨⟨old, he⟩, hit, hne⟩ := st
    obtain ⟨xs, x, hq, hx⟩ := hg
    obtain ⟨its, rv, p, hz⟩ := I.tuple hq
    obtain ⟨u, hu, ru⟩ := rv.get hx
    have hel : e < s.heap.objs.size := Heap.lt_size he
    have hil : it < s.heap.objs.size := by obtain ⟨_, q, _⟩ := hit; exact Heap.lt_size q
    have n1 : a ≠ it := fun e => by
      obtain ⟨o, e1, c1, _⟩ := hit
      obtain ⟨o2, e2, c2, _⟩ := p
      rw [e, e1] at e2
      cases e2
      rw [c1] at c2
      exact absurd c2 (by decide)
    have k1 : i < its.toArray.size := (Array.getElem?_eq_some_iff.mp (show its.toArray[i]? = some u by simpa using hu)).1
    refine wpAny_pyNext_enum_itemC (Draws.tuple (show X.A.in1.handled = none from I.ok.hd hc) it a n1 its.toArray) he ⟨hit, p⟩ k1 hne (by simp [hne, Ne.symm hae]) fun x1 h' tk y1 ho hs' hT hsz hk => ?_
    have e1 : x1 = u := by
      have : its.toArray[i]? = some x1 := y1
      rw [show its.toArray[i]? = some u by simpa using hu] at this
      exact (Option.some.inj this).symm
    subst e1
    refine ⟨_, rfl, wpAny_letOwnedTupleGo_enum (s := { s with heap := h', toks := tk + 1 }) ho fun h'' he' sb => ?_⟩
    have hT2 : h''.get? s.heap.objs.size = some { cls := .type "tuple", data := .seq #[.int i tk, x1] } := (sb.2 _ (Nat.ne_of_gt hel)).trans hT
    have new : ObjOk X.prog X.w (upd H s.heap.objs.size (.tup [.int (i : Nat), x])) h'' s.heap.objs.size (.tup [.int (i : Nat), x]) :=
      ⟨by show 2 ≤ sizeLine; decide, [.int i tk, x1], .cons ⟨_, rfl⟩ (.cons ru .nil), ⟨_, hT2, rfl, _, rfl⟩⟩
    have I1 : Inv X pins σ (upd H s.heap.objs.size (.tup [.int (i : Nat), x])) { s with heap := h'', toks := tk + 1 } :=
      I.turnedNew (ch := [e, it]) (fun b ob hb q => (sb.2 b (fun z => hb (by simp [z]))).trans (hk b ob (fun z => hb (by simp [z])) (fun z => hb (by simp [z])) q)) hf (Nat.le_refl _) new
    refine ⟨.ref s.heap.objs.size, _, I1, rfl, ⟨_, x, rfl, I.hok.fresh (Nat.le_refl _), rfl, fun ys hy => by rw [I.tuple_inj hy hq]; exact hx⟩, ⟨⟨x1, ?_⟩, hs'.1.at fun o q => (sb.2 it (Ne.symm hne)).trans q, hne⟩, fun b hb => ?_⟩
    · have e1 : ((i + 1 : Nat) : Int) = (i : Int) + 1 := by omega
      rw [e1]; exact he'
    · have hb' : b < s.heap.objs.size := by
        have e' : b = e ∨ b = it := by simpa using hb
        rcases e' with z | z
        · rw [z]; exact hel
        · rw [z]; exact hil
      rw [upd_ne (Nat.ne_of_lt hb')]
      exact (hf b hb).1
  done := by
    intro X hP hw hK hc i pins s σ H E I hf st hg
    subst hP hw hK
    obtain ⟨⟨old, he⟩, hit, hne⟩ := st
    obtain ⟨xs, hq, hx⟩ := hg
    obtain ⟨its, rv, p, hz⟩ := I.tuple hq
    have n1 : a ≠ it := fun e => by
      obtain ⟨o, e1, c1, _⟩ := hit
      obtain ⟨o2, e2, c2, _⟩ := p
      rw [e, e1] at e2
      cases e2
      rw [c1] at c2
      exact absurd c2 (by decide)
    have hl := rv.length
    have s1 : i = its.toArray.size := by simp; omega
    obtain ⟨f0, f1, f2, f3, f4, f5⟩ := hf it (by simp)
    subst s1
    exact wpAny_pyNext_enum_endD (Draws.tuple (show X.A.in1.handled = none from I.ok.hd hc) it a n1 its.toArray) he ⟨hit, p⟩ fun h' eb => ⟨rfl, I.turned (t' := s.toks) (fun b o hb q => eb b o hb q) f0 f1 f3 f4 f5⟩
  self := fun A i s Q E st h => let ⟨⟨_, he⟩, _⟩ := st; wpAny_pyIter_enum he h
set_option maxHeartbeats 1000000 in
theorem meets_enum1 {v : Value} {o : Obj} {H : Heap → Prop} (B : Begins v o H) :
    Meets (Builtin.«enumerate.__new__» ⟨[.type "enumerate", v], []⟩) (fun _ R s => H s.heap ∧
      R (.ok (.ret (.ref (s.heap.push o).objs.size))) { s with heap := (s.heap.push o).push { cls := .type "enumerate", data := .fields #[.none, .bool false, .ref s.heap.objs.size, rawInt 0, .none, .none] } }) :=
  .of_wp fun prog w A R s h => by
    obtain ⟨hp, g, d, tk, os⟩ := s; obtain ⟨h1, h⟩ := h
    have hsub := sub_enumerate
    have q1 : ∀ {A' : Around} {E : Value → Shared → Prop} {Q : Value → Shared → Prop}, Q (.ref hp.objs.size) ⟨hp.push o, g, d, tk, os⟩ → wpAny (model prog w) A' (pyIter v) Q E ⟨hp, g, d, tk, os⟩ :=
      fun q => B.iter prog w _ _ ⟨hp, g, d, tk, os⟩ _ h1 q
    wp_walk using q1
    refine wpAny_stack_any fun st => wpAny_pure ?_
    split
    · rename_i c _ _ _ _ _
      cases (c == Value.type "enumerate")
      · wp_walk using q1
        exact ⟨_, rfl, h⟩
      · wp_walk using q1
        exact ⟨_, rfl, h⟩
    · wp_walk using q1
      exact ⟨_, rfl, h⟩
theorem call_enum1 {prog : Program} {w : World} {A : Around} {E : Value → Shared → Prop} {s : Shared} {v : Value} {o : Obj} {H : Heap → Prop} {Q : Value → Shared → Prop} (B : Begins v o H) (h1 : H s.heap)
    (h : ∀ h', IsEnum h' (s.heap.objs.size + 1) s.heap.objs.size 0 .none → h'.get? s.heap.objs.size = some o → h'.objs.size = s.heap.objs.size + 2 →
      (∀ b o, s.heap.get? b = some o → h'.get? b = some o) → Q (.ref (s.heap.objs.size + 1)) { s with heap := h' }) :
    wpAny (model prog w) A (call (.type "enumerate") [v]) Q E s := by
  refine callType_new F.called_enumerate (by decide) (F.typeCall_enumerate_1 _) (F.newCall_enumerate_1 _) (fun obj => F.args_object_init_2 obj _) F.entry_enumerate_new
    (meets_enum1 B) ⟨h1, ?_⟩
  have hz : (s.heap.push o).objs.size = s.heap.objs.size + 1 := Heap.size_push ..
  show _ ∧ _
  rw [hz]
  have he : IsEnum ((s.heap.push o).push { cls := .type "enumerate", data := .fields #[.none, .bool false, .ref s.heap.objs.size, rawInt 0, .none, .none] }) (s.heap.objs.size + 1) s.heap.objs.size 0 .none := by
    have := Heap.get?_push_size (s.heap.push o) (o := { cls := .type "enumerate", data := .fields #[.none, .bool false, .ref s.heap.objs.size, rawInt 0, .none, .none] }) rfl
    rw [hz] at this; exact this
  refine ⟨⟨_, he, rfl⟩, h _ he (Heap.get?_push_of_some _ (Heap.get?_push_size _ B.free)) (by rw [Heap.size_push, hz]) fun b o x => Heap.get?_push_of_some _ (Heap.get?_push_of_some _ x)⟩
def iEnumT (K : PySem.W.Frag) (ta : TA) : TI := fun σ H R => ta σ H fun vs H1 => ∃ a xs, vs = [.ref a] ∧ SqT K H1 a xs ∧ R (IteT K a) H1
theorem pi_enumT {X : Cx} {e : Expr} {ta : TA} {p pos tpos : Pos} {elts : List Expr} {kk : Nat} (hg : Gl X "enumerate") (hm : X.mg "enumerate" = none) (ha : PA X [e] ta) (hs : starEach [e] X.env = [(false, eval e X.env)] := by rfl) :
    PI X (.Tuple elts kk tpos) (.Call (.Name "enumerate" p) [e] [] pos) (iEnumT X.K ta) := by
  refine ⟨fun pins s σ H R I h => ?_⟩
  refine Call_ (ld_blt I hg hm boot_enumerate (PyProof.Rows.callWith_type1 (thn (ha.run pos pins s σ H _ I h) fun us s1 ⟨vs, H1, I1, r1, q1⟩ => ?_) hs rfl))
  obtain ⟨a, xs, ex, hq, q⟩ := q1
  subst ex
  cases r1 with
  | cons r rr =>
    cases rr
    cases r
    obtain ⟨its, rv, p', hz⟩ := I1.tuple hq
    obtain ⟨o2, ho2, _⟩ := id p'
    refine call_enum1 (begins_tuple a its.toArray) p' fun h' he hit hsz hk => wpAny_pyIter_enum he ?_
    have I2 : Inv X pins σ H1 { s1 with heap := h' } := I1.kept (t' := s1.toks) hk
    have hlt : a < s1.heap.objs.size := Heap.lt_size ho2
    refine ⟨s1.heap.objs.size + 1, [s1.heap.objs.size + 1, s1.heap.objs.size], _, _, H1, rfl, I2, turn_enumT a (s1.heap.objs.size + 1) s1.heap.objs.size (Nat.ne_of_lt (Nat.lt_succ_of_lt hlt)), ⟨⟨.none, he⟩, ⟨_, hit, rfl, rfl⟩, Nat.succ_ne_self _⟩, fun b hb => ?_, q⟩
    have e' : b = s1.heap.objs.size + 1 ∨ b = s1.heap.objs.size := by simpa using hb
    have hle : s1.heap.objs.size ≤ b := by
      rcases e' with z | z
      · rw [z]; exact Nat.le_add_right _ _
      · rw [z]; exact Nat.le_refl _
    exact I1.fpOk hle (I1.hok.fresh hle)
end G41
set_option Elab.async false
set_option linter.all false
set_option maxRecDepth 100000
set_option maxHeartbeats 4000000
namespace G41
open PySem PySem.Spec PyProof.Rows L2
/-! rules with the model's constants given by name -/
section
variable {X : Cx} {K : PySem.W.Frag}
theorem k_ixl (h : X.K = K) : IxR X (rIxL K) := h ▸ ix_list
theorem k_ixt (h : X.K = K) : IxR X (rIxT K) := h ▸ ix_tup
def rLenS (K : PySem.W.Frag) : List V → Hp → VK → Prop := fun xs H Q => ∃ p ys, xs = [.ref p] ∧ (SqL K H p ys ∨ SqT K H p ys) ∧ Q (.int (ys.length : Nat)) H
theorem k_len (h : X.K = K) : CallR X (.builtin "len") (rLenS K) := by subst h; exact call_len_seq
theorem k_sum (h : X.K = K) (hc : X.calm = true) : CallR X (.builtin "sum") (rSum K) := h ▸ cr_sum hc
theorem k_all (h : X.K = K) (hc : X.calm = true) : CallR X (.builtin "all") (rAll K) := h ▸ cr_all hc
def rListOf (K : PySem.W.Frag) : List V → Hp → VK → Prop := fun xs H Q => ∃ p ys, xs = [.ref p] ∧ (SqL K H p ys ∨ SqT K H p ys) ∧ ∀ l, H l = none → Q (.ref l) (upd H l (.lst ys))
theorem k_list (h : X.K = K) : CallR X (.type "list") (rListOf K) := by subst h; exact call_list_of
def rTupOf (K : PySem.W.Frag) : List V → Hp → VK → Prop := fun xs H Q => ∃ p ys, xs = [.ref p] ∧ ((SqL K H p ys ∧ ∀ l, H l = none → Q (.ref l) (upd H l (.tup ys))) ∨ (SqT K H p ys ∧ Q (.ref p) H))
theorem k_tuple (h : X.K = K) : CallR X (.type "tuple") (rTupOf K) := by subst h; exact call_tuple_of
theorem k_rev (h : X.K = K) {e : Expr} {te : TE} {k : Nat} {p1 p2 p3 pos : Pos} (he : PE X e te) : PE X (.Subscript e (.Slice none none (some (.UnaryOp .USub (.Constant (.int 1) k p1) p2)) p3) pos) (tRevL K te) := h ▸ pe_revL he
theorem k_catT (h : X.K = K) : OpR X (binaryOp .Add) (rCatT K) := h ▸ op_catT
theorem k_slT (h : X.K = K) : SlR X (rSlT K) := h ▸ sl_tup
theorem k_slL (h : X.K = K) : SlR X (rSlL K) := h ▸ sl_list
theorem k_in (h : X.K = K) (hu : X.A.units + 65 < cLine) : OpR X (compareOp .In) (rInD K) := h ▸ op_inD hu
theorem k_notIn (h : X.K = K) (hu : X.A.units + 65 < cLine) : OpR X (compareOp .NotIn) (rNotInD K) := h ▸ op_notInD hu
theorem k_eq (h : X.K = K) (hu : X.A.units + 64 < cLine) : OpR X (compareOp .Eq) (rEqD K) := h ▸ op_eqD hu
theorem k_ne (h : X.K = K) (hu : X.A.units + 64 < cLine) : OpR X (compareOp .NotEq) (rNeD K) := h ▸ op_neD hu
theorem k_index (h : X.K = K) (hu : X.A.units + 65 < cLine) : MtR X "list.index" (rIndexD K) := h ▸ mt_indexD hu
theorem k_isi (h : X.K = K) : CallR X (.builtin "isinstance") (rIsi K) := h ▸ call_isi
theorem k_pl (h : X.K = K) {tg l : Expr} {tl : TE} (hl : PE X l tl) : PI X tg l (iList K tl) := h ▸ pi_list hl
theorem k_pt (h : X.K = K) {tg l : Expr} {tl : TE} (hl : PE X l tl) : PI X tg l (iTup K tl) := h ▸ pi_tup hl
theorem k_zip (h : X.K = K) {e e2 : Expr} {ta : TA} {p pos tpos : Pos} {elts : List Expr} {kk : Nat} (hg : Gl X "zip") (hm : X.mg "zip" = none) (ha : PA X [e, e2] ta)
    (hs : starEach [e, e2] X.env = (false, eval e X.env) :: starEach [e2] X.env := by rfl) (hpl : (backTo pos (starEach [e2] X.env)).any (·.1) = false := by rfl) :
    PI X (.Tuple elts kk tpos) (.Call (.Name "zip" p) [e, e2] [] pos) (RZ.iZipA K ta) := by subst h; exact RZ.pi_zipA hg hm ha hs hpl
theorem k_zipM (h : X.K = K) {e e2 : Expr} {ta : TA} {p pos tpos : Pos} {elts : List Expr} {kk : Nat} (hg : Gl X "zip") (hm : X.mg "zip" = none) (ha : PA X [e, e2] ta)
    (hs : starEach [e, e2] X.env = (false, eval e X.env) :: starEach [e2] X.env := by rfl) (hpl : (backTo pos (starEach [e2] X.env)).any (·.1) = false := by rfl) :
    PI X (.Tuple elts kk tpos) (.Call (.Name "zip" p) [e, e2] [] pos) (iZipM K ta) := by subst h; exact pi_zipM hg hm ha hs hpl
theorem k_tup (h : X.K = K) {es : List Expr} {k : Nat} {t : TGs} {n : Nat} {pos : Pos} (hc : X.calm = true) (hh : PGs X es t)
    (hn : (assignEach es X.env).length = n := by rfl) (hst : (assignEach es X.env).findIdx? (·.1) = none := by rfl) : PG X (.Tuple es k pos) (gTup K n t) := by subst h; exact pg_tup hc hh hn hst
theorem k_enumT (h : X.K = K) {e : Expr} {ta : TA} {p pos tpos : Pos} {elts : List Expr} {kk : Nat} (hg : Gl X "enumerate") (hm : X.mg "enumerate" = none) (ha : PA X [e] ta) (hs : starEach [e] X.env = [(false, eval e X.env)] := by rfl) :
    PI X (.Tuple elts kk tpos) (.Call (.Name "enumerate" p) [e] [] pos) (iEnumT K ta) := by subst h; exact pi_enumT hg hm ha hs
end
theorem nw {H : Hp} {p q : Addr} {o : HO} (h : upd H p o q = none) : (q ≠ p ∧ p ≠ q) ∧ H q = none := by
  by_cases e : q = p
  · rw [e, upd_same] at h; cases h
  · rw [upd_ne e] at h; exact ⟨⟨e, Ne.symm e⟩, h⟩
theorem nwI {H : Hp} {p q : Addr} {o : HO} {G : Prop} (h : q ≠ p → p ≠ q → H q = none → G) (e : upd H p o q = none) : G := h (nw e).1.1 (nw e).1.2 (nw e).2
theorem upd_n {H : Hp} {p q : Addr} {o : HO} : upd H p o q = none ↔ q ≠ p ∧ H q = none := by
  constructor
  · intro h; exact ⟨(nw h).1.1, (nw h).2⟩
  · intro h; rw [upd_ne h.1]; exact h.2
theorem lenLt {n : Nat} (h : n ≤ 50) : n < sizeLine := Nat.lt_of_le_of_lt h (by decide)
theorem lkn {H : Hp} {a p : Addr} {o : HO} {x : Option HO} (h : a ≠ p) (q : H a = x) : upd H p o a = x := (upd_ne h).trans q
theorem tup_same {K : PySem.W.Frag} {H H' : Hp} {a : Addr} {xs : List V} (h : SqT K H a xs) (e : Same H H') : SqT K H' a xs := same_tup e h
theorem trans_same {H H1 H2 : Hp} (b : Same H1 H2) (a : Same H H1) : Same H H2 := a.trans b
theorem same_upd {H H' : Hp} {a : Addr} {u : HO} (h : Same H H') (ha : H a = some u) : H' a = some u := h a u ha
theorem old_ne {H : Hp} {a b : Addr} {o : HO} (ha : H a = some o) (hb : H b = none) : a ≠ b ∧ b ≠ a :=
  ⟨(fun e => by rw [e, hb] at ha; cases ha), (fun e => by rw [← e, hb] at ha; cases ha)⟩
theorem same_none {H H' : Hp} {b : Addr} (h : Same H H') (hb : H' b = none) : H b = none := by
  cases e : H b with
  | none => rfl
  | some o => rw [h b o e] at hb; cases hb
theorem same_none0 {H H' : Hp} {b : Addr} (h : Same H H') (hb : H' b = none) : H b = none := by
  cases e : H b with
  | none => rfl
  | some o => rw [h b o e] at hb; cases hb
/-! two fors in one comprehension, and a while of a known number of turns -/
def UnI (J1 : It) (g1 : TG) (tt1 : TT) (te : TE) (σ2 : L2.St) (vs1 : List Nat) (D : Addr) (Nx : Hp → Prop) : Nat → Nat → Hp → Prop
  | 0, j, H => J1.stop j H ∧ Nx H
  | k + 1, j, H => J1.go j H ∧ ∀ x H', J1.yld j H x H' → g1 x (wipe σ2 vs1) H' fun σ3 H5 => wipe σ3 vs1 = wipe σ2 vs1 ∧ tt1 σ3 H5 fun b H6 =>
    if b = true then te σ3 H6 fun y H7 => ∃ acc, H7 D = some (.lst acc) ∧ acc.length < sizeLine ∧ UnI J1 g1 tt1 te σ2 vs1 D Nx k (j + 1) (upd H7 D (.lst (acc ++ [y]))) else UnI J1 g1 tt1 te σ2 vs1 D Nx k (j + 1) H6
abbrev InG (J1 : It) (g1 : TG) (tt1 : TT) (te : TE) (σ2 : L2.St) (vs1 : List Nat) (D : Addr) (NX : Hp → Prop) (H4 : Hp) : Prop := ∃ W1 : Nat → Nat → Hp → Prop, (∃ m, W1 0 m H4) ∧ ∀ j k' H, W1 j k' H →
      (J1.stop j H ∧ NX H) ∨ (J1.go j H ∧ ∃ Nx1 : Hp → Prop, (∀ H', Nx1 H' → ∃ l, l < k' ∧ W1 (j + 1) l H') ∧ ∀ x H', J1.yld j H x H' → g1 x (wipe σ2 vs1) H' fun σ3 H5 => wipe σ3 vs1 = wipe σ2 vs1 ∧ tt1 σ3 H5 fun b H6 =>
        if b = true then te σ3 H6 fun y H7 => ∃ acc, H7 D = some (.lst acc) ∧ acc.length < sizeLine ∧ Nx1 (upd H7 D (.lst (acc ++ [y]))) else Nx1 H6)
def UnL2 (J : It) (g : TG) (tt : TT) (wi1 : TI) (g1 : TG) (tt1 : TT) (te : TE) (vs vs1 : List Nat) (σ : L2.St) (D : Addr) (Qd : Hp → Prop) : Nat → Nat → Hp → Prop
  | 0, i, H => J.stop i H ∧ Qd H
  | k + 1, i, H => J.go i H ∧ ∀ x H', J.yld i H x H' → g x (wipe σ vs) H' fun σ2 H2 => wipe σ2 vs = wipe σ vs ∧ tt σ2 H2 fun b H3 =>
    if b = true then wi1 σ2 H3 fun J1 H4 => InG J1 g1 tt1 te σ2 vs1 D (UnL2 J g tt wi1 g1 tt1 te vs vs1 σ D Qd k (i + 1)) H4 else UnL2 J g tt wi1 g1 tt1 te vs vs1 σ D Qd k (i + 1) H3
def UnW (c : TT) (tb : TS) (D : Ends) : Nat → L2.St → Hp → Prop
  | 0, σ, H => c σ H fun b H1 => b = false ∧ D.nx σ H1
  | k + 1, σ, H => c σ H fun b H1 => if b = true then tb { D with nx := UnW c tb D k, ct := UnW c tb D k, bk := D.nx } σ H1 else D.nx σ H1
theorem none_same {H H' : Hp} {b : Addr} (hb : H' b = none) (h : Same H H') : H b = none := same_none h hb
theorem ne_new1 {H : Hp} {a b : Addr} {o : HO} (hb : H b = none) (ha : H a = some o) : a ≠ b := (old_ne ha hb).1
theorem ne_new2 {H : Hp} {a b : Addr} {o : HO} (hb : H b = none) (ha : H a = some o) : b ≠ a := (old_ne ha hb).2
/-! readings, their existentials left to be found -/
section
variable {K : PySem.W.Frag} {H : Hp} {a b : Addr} {xs ys acc : List V} {R : Prop}
theorem accI {D : Addr} (h : H D = some (.lst acc)) (hl : acc.length < sizeLine) {P : List V → Prop} (q : P acc) : ∃ acc, H D = some (.lst acc) ∧ acc.length < sizeLine ∧ P acc := ⟨acc, h, hl, q⟩
theorem ppL {P : Addr → List V → Prop} {Q : Addr → List V → Prop} (h : SqL K H a xs) (q : P a xs) : ∃ p ys, [V.ref a] = [V.ref p] ∧ ((SqL K H p ys ∧ P p ys) ∨ Q p ys) := ⟨a, xs, rfl, Or.inl ⟨h, q⟩⟩
theorem ppT {P : Addr → List V → Prop} {Q : Addr → List V → Prop} (h : SqT K H a xs) (q : P a xs) : ∃ p ys, [V.ref a] = [V.ref p] ∧ (Q p ys ∨ (SqT K H p ys ∧ P p ys)) := ⟨a, xs, rfl, Or.inr ⟨h, q⟩⟩
theorem pqL {P : Addr → List V → Prop} {Q : Addr → List V → Prop} (h : SqL K H a xs) (q : P a xs) : ∃ p ys, [V.ref a] = [V.ref p] ∧ (SqL K H p ys ∨ Q p ys) ∧ P p ys := ⟨a, xs, rfl, Or.inl h, q⟩
theorem pqT {P : Addr → List V → Prop} {Q : Addr → List V → Prop} (h : SqT K H a xs) (q : P a xs) : ∃ p ys, [V.ref a] = [V.ref p] ∧ (Q p ys ∨ SqT K H p ys) ∧ P p ys := ⟨a, xs, rfl, Or.inr h, q⟩
theorem pzL {P Q : Addr → Addr → List V → List V → Prop} (h : SqL K H a xs) (h2 : SqL K H b ys) (q : P a b xs ys) : ∃ p r zs ws, [V.ref a, V.ref b] = [V.ref p, V.ref r] ∧ ((SqL K H p zs ∧ SqL K H r ws ∧ P p r zs ws) ∨ Q p r zs ws) := ⟨a, b, xs, ys, rfl, Or.inl ⟨h, h2, q⟩⟩
theorem pzT {P Q : Addr → Addr → List V → List V → Prop} (h : SqT K H a xs) (h2 : SqT K H b ys) (q : P a b xs ys) : ∃ p r zs ws, [V.ref a, V.ref b] = [V.ref p, V.ref r] ∧ (Q p r zs ws ∨ (SqT K H p zs ∧ SqT K H r ws ∧ P p r zs ws)) := ⟨a, b, xs, ys, rfl, Or.inr ⟨h, h2, q⟩⟩
theorem pzM {P : Addr → Addr → List V → List V → Prop} (h : SqL K H a xs) (h2 : SqT K H b ys) (q : P a b xs ys) : ∃ p r zs ws, [V.ref a, V.ref b] = [V.ref p, V.ref r] ∧ SqL K H p zs ∧ SqT K H r ws ∧ P p r zs ws := ⟨a, b, xs, ys, rfl, h, h2, q⟩
theorem pxL (h : SqL K H a xs) (q : R) : (∃ ys, SqL K H a ys) ∧ R := ⟨⟨xs, h⟩, q⟩
theorem pxT (h : SqT K H a xs) (q : R) : (∃ ys, SqT K H a ys) ∧ R := ⟨⟨xs, h⟩, q⟩
theorem tyI {P : Prop} (h : SqL K H a xs) (q : P) : tyV K "list" (V.ref a) H ∧ P := ⟨.inl ⟨rfl, _, h⟩, q⟩
theorem gtI {n : Nat} {P : Addr → List V → Prop} (h : SqT K H a xs) (hl : xs.length = n) (q : P a xs) : ∃ b ys, V.ref a = V.ref b ∧ SqT K H b ys ∧ ys.length = n ∧ P b ys := ⟨a, xs, rfl, h, hl, q⟩
theorem apdI {y : V} {P : Addr → List V → V → Prop} (h : H a = some (.lst xs)) (hl : xs.length < sizeLine) (q : P a xs y) : ∃ l xs z, V.ref a = V.ref l ∧ [y] = [z] ∧ H l = some (.lst xs) ∧ xs.length < sizeLine ∧ P l xs z := ⟨a, xs, y, rfl, rfl, h, hl, q⟩
theorem ixLI {j : Int} {v : V} {P : Addr → List V → Int → V → Prop} (h : SqL K H a xs) (hv : atI xs j = some v) (q : P a xs j v) : ∃ p xs i v, V.ref a = V.ref p ∧ V.int j = V.int i ∧ SqL K H p xs ∧ atI xs i = some v ∧ P p xs i v := ⟨a, xs, j, v, rfl, rfl, h, hv, q⟩
theorem ixTI {j : Int} {v : V} {P : Addr → List V → Int → V → Prop} (h : SqT K H a xs) (hv : atI xs j = some v) (q : P a xs j v) : ∃ p xs i v, V.ref a = V.ref p ∧ V.int j = V.int i ∧ SqT K H p xs ∧ atI xs i = some v ∧ P p xs i v := ⟨a, xs, j, v, rfl, rfl, h, hv, q⟩
theorem setI {k : Int} {j : Nat} {P : Addr → List V → Int → Nat → Prop} (h : H a = some (.lst xs)) (hj : ixN xs.length k = some j) (q : P a xs k j) : ∃ p xs i j, V.ref a = V.ref p ∧ V.int k = V.int i ∧ H p = some (.lst xs) ∧ ixN xs.length i = some j ∧ P p xs i j := ⟨a, xs, k, j, rfl, rfl, h, hj, q⟩
theorem slLI {P : Addr → List V → Prop} (h : SqL K H a xs) (q : P a xs) : ∃ p xs, V.ref a = V.ref p ∧ SqL K H p xs ∧ P p xs := ⟨a, xs, rfl, h, q⟩
theorem sum2I {x y : Int} {P : Addr → List Int → Prop} (h : SqL K H a [V.int x, V.int y]) (q : P a [x, y]) : ∃ p ns, [V.ref a] = [V.ref p] ∧ SqL K H p (ns.map V.int) ∧ P p ns := ⟨a, [x, y], rfl, h, q⟩
theorem iteTI {c : Prop} [Decidable c] {A B : Prop} (h : c) (q : A) : if c then A else B := by rw [if_pos h]; exact q
theorem iteFI {c : Prop} [Decidable c] {A B : Prop} (h : ¬ c) (q : B) : if c then A else B := by rw [if_neg h]; exact q
def Sm (x : Int) : Prop := -(2 ^ 64) < x ∧ x < 2 ^ 64
theorem mulR {x y : Int} {P : Prop} (h : Sm y) (q : P) : CMul x y ∧ P := ⟨.inr h, q⟩
theorem mulL {x y : Int} {P : Prop} (h : Sm x) (q : P) : CMul x y ∧ P := ⟨.inl h, q⟩
end
section
variable {K : PySem.W.Frag} {a b : Addr} {xs ys : List V} {n : Nat} {lo : Int} {g : TG} {tt : TT} {te : TE} {vs : List Nat} {σ : L2.St} {H1 : Hp} {D : Addr} {Qd : Hp → Prop} {tb : TS} {E : Ends} {H : Hp}
abbrev LcG (J : It) (g : TG) (tt : TT) (te : TE) (vs : List Nat) (σ : L2.St) (H1 : Hp) (D : Addr) (Qd : Hp → Prop) : Prop := ∃ W : Nat → Nat → Hp → Prop, (∃ m, W 0 m (upd H1 D (.lst []))) ∧ ∀ i m H, W i m H →
      (J.stop i H ∧ Qd H) ∨ (J.go i H ∧ ∃ Nx : Hp → Prop, (∀ H', Nx H' → ∃ m', m' < m ∧ W (i + 1) m' H') ∧ ∀ x H', J.yld i H x H' → g x (wipe σ vs) H' fun σ2 H2 => wipe σ2 vs = wipe σ vs ∧ tt σ2 H2 fun b H3 =>
        if b = true then te σ2 H3 fun y H4 => ∃ acc, H4 D = some (.lst acc) ∧ acc.length < sizeLine ∧ Nx (upd H4 D (.lst (acc ++ [y]))) else Nx H3)
abbrev FoG (J : It) (g : TG) (tb : TS) (D : Ends) (σ : L2.St) (H : Hp) : Prop := ∃ W : Nat → Nat → L2.St → Hp → Prop, (∃ m, W 0 m σ H) ∧ ∀ i m σ H, W i m σ H →
      (J.stop i H ∧ D.nx σ H) ∨ (J.go i H ∧ ∃ N : L2.St → Hp → Prop, (∀ σ' H', N σ' H' → ∃ m', m' < m ∧ W (i + 1) m' σ' H') ∧ ∀ x H', J.yld i H x H' → g x σ H' fun σ2 H2 => tb { D with nx := N, ct := N, bk := D.nx } σ2 H2)
theorem un_lcR (h : UnL (Itr lo n) g tt te vs σ D Qd n 0 (upd H1 D (.lst []))) : LcG (Itr lo n) g tt te vs σ H1 D Qd := un_lc n h
theorem un_lcL (_ : SqL K H1 a xs) (h : UnL (Itl K a) g tt te vs σ D Qd xs.length 0 (upd H1 D (.lst []))) : LcG (Itl K a) g tt te vs σ H1 D Qd := un_lc _ h
theorem un_lcT (_ : SqT K H1 a xs) (h : UnL (Itt K a) g tt te vs σ D Qd xs.length 0 (upd H1 D (.lst []))) : LcG (Itt K a) g tt te vs σ H1 D Qd := un_lc _ h
theorem un_lcZ (_ : SqL K H1 a xs) (h : UnL (Itz K a b) g tt te vs σ D Qd xs.length 0 (upd H1 D (.lst []))) : LcG (Itz K a b) g tt te vs σ H1 D Qd := un_lc _ h
theorem un_lcZT (_ : SqT K H1 a xs) (h : UnL (RZ.ItzT K a b) g tt te vs σ D Qd xs.length 0 (upd H1 D (.lst []))) : LcG (RZ.ItzT K a b) g tt te vs σ H1 D Qd := un_lc _ h
theorem un_lcZM (_ : SqL K H1 a xs) (h : UnL (ItzM K a b) g tt te vs σ D Qd xs.length 0 (upd H1 D (.lst []))) : LcG (ItzM K a b) g tt te vs σ H1 D Qd := un_lc _ h
theorem un_forR (h : UnF (Itr lo n) g tb E n 0 σ H) : FoG (Itr lo n) g tb E σ H := un_for n h
theorem un_forL (_ : SqL K H a xs) (h : UnF (Itl K a) g tb E xs.length 0 σ H) : FoG (Itl K a) g tb E σ H := un_for _ h
theorem un_forT (_ : SqT K H a xs) (h : UnF (Itt K a) g tb E xs.length 0 σ H) : FoG (Itt K a) g tb E σ H := un_for _ h
theorem un_forZ (_ : SqL K H a xs) (h : UnF (Itz K a b) g tb E xs.length 0 σ H) : FoG (Itz K a b) g tb E σ H := un_for _ h
theorem un_forZT (_ : SqT K H a xs) (h : UnF (RZ.ItzT K a b) g tb E xs.length 0 σ H) : FoG (RZ.ItzT K a b) g tb E σ H := un_for _ h
theorem un_forZM (_ : SqL K H a xs) (h : UnF (ItzM K a b) g tb E xs.length 0 σ H) : FoG (ItzM K a b) g tb E σ H := un_for _ h
theorem un_forE (_ : SqT K H a xs) (h : UnF (IteT K a) g tb E xs.length 0 σ H) : FoG (IteT K a) g tb E σ H := un_for _ h
end
theorem un_lc2 {J : It} {g : TG} {tt : TT} {wi1 : TI} {g1 : TG} {tt1 : TT} {te : TE} {vs vs1 : List Nat} {σ : L2.St} {H1 : Hp} {D : Addr} {Qd : Hp → Prop} (n : Nat) (h : UnL2 J g tt wi1 g1 tt1 te vs vs1 σ D Qd n 0 (upd H1 D (.lst []))) :
    ∃ W : Nat → Nat → Hp → Prop, (∃ m, W 0 m (upd H1 D (.lst []))) ∧ ∀ i m H, W i m H →
  (J.stop i H ∧ Qd H) ∨ (J.go i H ∧ ∃ Nx : Hp → Prop, (∀ H', Nx H' → ∃ m', m' < m ∧ W (i + 1) m' H') ∧ ∀ x H', J.yld i H x H' → g x (wipe σ vs) H' fun σ2 H2 => wipe σ2 vs = wipe σ vs ∧ tt σ2 H2 fun b H3 =>
    if b = true then wi1 σ2 H3 fun J1 H4 => InG J1 g1 tt1 te σ2 vs1 D Nx H4
    else Nx H3) := by
  refine ⟨fun i m H => UnL2 J g tt wi1 g1 tt1 te vs vs1 σ D Qd m i H, ⟨n, h⟩, fun i m H w => ?_⟩
  cases m with
  | zero => exact .inl w
  | succ k => exact .inr ⟨w.1, UnL2 J g tt wi1 g1 tt1 te vs vs1 σ D Qd k (i + 1), fun H' q => ⟨k, Nat.lt_succ_self _, q⟩, w.2⟩
theorem un_in {J1 : It} {g1 : TG} {tt1 : TT} {te : TE} {σ2 : L2.St} {vs1 : List Nat} {D : Addr} {Nx : Hp → Prop} {H4 : Hp} (n : Nat) (h : UnI J1 g1 tt1 te σ2 vs1 D Nx n 0 H4) : InG J1 g1 tt1 te σ2 vs1 D Nx H4 := by
  refine ⟨fun i m H => UnI J1 g1 tt1 te σ2 vs1 D Nx m i H, ⟨n, h⟩, fun i m H w => ?_⟩
  cases m with
  | zero => exact .inl w
  | succ k => exact .inr ⟨w.1, UnI J1 g1 tt1 te σ2 vs1 D Nx k (i + 1), fun H' q => ⟨k, Nat.lt_succ_self _, q⟩, w.2⟩
theorem un_inR {lo : Int} {n : Nat} {g1 : TG} {tt1 : TT} {te : TE} {σ2 : L2.St} {vs1 : List Nat} {D : Addr} {Nx : Hp → Prop} {H4 : Hp} (h : UnI (Itr lo n) g1 tt1 te σ2 vs1 D Nx n 0 H4) : InG (Itr lo n) g1 tt1 te σ2 vs1 D Nx H4 := un_in n h
theorem un_while {c : TT} {tb : TS} {D : Ends} {σ : L2.St} {H : Hp} (hmono : ∀ σ H (Q Q' : Bool → Hp → Prop), (∀ b H, Q b H → Q' b H) → c σ H Q → c σ H Q') (n : Nat) (h : UnW c tb D n σ H) : tWhile c tb D σ H := by
  refine ⟨fun m σ H => UnW c tb D m σ H, ⟨n, h⟩, fun m σ H w => ?_⟩
  cases m with
  | zero =>
    refine hmono σ H _ _ (fun b H q => ?_) w
    obtain ⟨rfl, q⟩ := q
    exact iteFI Bool.false_ne_true q
  | succ k =>
    refine hmono σ H _ _ (fun b H q => ?_) w
    cases b with
    | true => exact iteTI rfl ⟨UnW c tb D k, fun σ' H' q => ⟨k, Nat.lt_succ_self _, q⟩, (by rw [if_pos rfl] at q; exact q)⟩
    | false => exact iteFI Bool.false_ne_true (by rw [if_neg Bool.false_ne_true] at q; exact q)
/-! ### comprehensions of two items, the heap between them forgotten -/
theorem lc_two {J : It} {g : TG} {te : TE} {vs : List Nat} {σ : L2.St} {H0 : Hp} {D : Addr} {Qd : Hp → Prop} (R : V → Prop) (hD : H0 D = none)
    (t0 : ∀ H (Qc : V → Hp → Prop), Same H0 H → (∀ y H4, Same H H4 → R y → Qc y H4) → J.go 0 H ∧ ∀ x H', J.yld 0 H x H' → g x (wipe σ vs) H' fun σ2 H2 => wipe σ2 vs = wipe σ vs ∧ te σ2 H2 Qc)
    (t1 : ∀ H (Qc : V → Hp → Prop), Same H0 H → (∀ y H4, Same H H4 → R y → Qc y H4) → J.go 1 H ∧ ∀ x H', J.yld 1 H x H' → g x (wipe σ vs) H' fun σ2 H2 => wipe σ2 vs = wipe σ vs ∧ te σ2 H2 Qc)
    (ts : ∀ H, Same H0 H → J.stop 2 H)
    (k : ∀ H' y0 y1, Same H0 H' → H' D = some (.lst [y0, y1]) → R y0 → R y1 → Qd H') : LcG J g tYes te vs σ H0 D Qd := by
  refine ⟨fun i m H => (i = 0 ∧ m = 2 ∧ Same H0 H ∧ H D = some (.lst [])) ∨ (i = 1 ∧ m = 1 ∧ Same H0 H ∧ ∃ y, H D = some (.lst [y]) ∧ R y) ∨ (i = 2 ∧ m = 0 ∧ Same H0 H ∧ ∃ y z, H D = some (.lst [y, z]) ∧ R y ∧ R z),
    ⟨2, .inl ⟨rfl, rfl, same_new hD, upd_same⟩⟩, fun i m H w => ?_⟩
  rcases w with ⟨rfl, rfl, s, hd⟩ | ⟨rfl, rfl, s, y, hd, hy⟩ | ⟨rfl, rfl, s, y, z, hd, hy, hz⟩
  · refine .inr ⟨(t0 H (fun _ _ => True) s (fun _ _ _ _ => trivial)).1, fun H' => Same H0 H' ∧ ∃ y, H' D = some (.lst [y]) ∧ R y, fun H' q => ⟨1, by decide, .inr (.inl ⟨rfl, rfl, q.1, q.2⟩)⟩, ?_⟩
    exact (t0 H (fun y H4 => ∃ acc, H4 D = some (.lst acc) ∧ acc.length < sizeLine ∧ (Same H0 (upd H4 D (.lst (acc ++ [y]))) ∧ ∃ y', upd H4 D (.lst (acc ++ [y])) D = some (.lst [y']) ∧ R y')) s
      (fun y H4 s4 r => ⟨[], s4 _ _ hd, by decide, same_mut (s.trans s4) hD, y, upd_same, r⟩)).2
  · refine .inr ⟨(t1 H (fun _ _ => True) s (fun _ _ _ _ => trivial)).1, fun H' => Same H0 H' ∧ ∃ y z, H' D = some (.lst [y, z]) ∧ R y ∧ R z, fun H' q => ⟨0, by decide, .inr (.inr ⟨rfl, rfl, q.1, q.2⟩)⟩, ?_⟩
    exact (t1 H (fun z H4 => ∃ acc, H4 D = some (.lst acc) ∧ acc.length < sizeLine ∧ (Same H0 (upd H4 D (.lst (acc ++ [z]))) ∧ ∃ y' z', upd H4 D (.lst (acc ++ [z])) D = some (.lst [y', z']) ∧ R y' ∧ R z')) s
      (fun z H4 s4 r => ⟨[y], s4 _ _ hd, lenLt (Nat.le_of_ble_eq_true rfl), same_mut (s.trans s4) hD, y, z, upd_same, hy, r⟩)).2
  · exact .inl ⟨ts H s, k H y z s hd hy hz⟩
def IsI (y : V) : Prop := ∃ v : Int, y = .int v
theorem wipe_at {i : Nat} {x y : Option V} : ∀ (vs : List Nat) (σ : L2.St), (wipe (σ.set i x) vs).set i y = (wipe σ vs).set i y
  | [], σ => by unfold wipe; rw [List.set_set]
  | v :: vs, σ => by
    unfold wipe
    by_cases e : v = i
    · subst e; rw [List.set_set, List.set_set]; exact wipe_at vs σ
    · rw [List.set_comm none y e, List.set_comm none y e, wipe_at vs σ]
theorem wipe_set {i : Nat} {x : Option V} : ∀ {vs : List Nat} {σ : L2.St}, i ∈ vs → wipe (σ.set i x) vs = wipe σ vs
  | [], _, h => nomatch h
  | v :: vs, σ, h => by
    unfold wipe
    by_cases e : i = v
    · subst e; exact wipe_at vs σ
    · rcases List.mem_cons.mp h with h | h
      · exact absurd h e
      · rw [wipe_set h]
theorem wipe_cm {v : Nat} : ∀ (vs : List Nat) (σ : L2.St), wipe ((wipe σ vs).set v none) vs = (wipe (wipe σ vs) vs).set v none
  | vs, σ => by
    generalize wipe σ vs = τ
    induction vs with
    | nil => rfl
    | cons u us ih =>
      unfold wipe
      rw [ih]
      by_cases e : u = v
      · subst e; rfl
      · rw [List.set_comm none none e]
theorem wipe_wipe : ∀ (vs : List Nat) (σ : L2.St), wipe (wipe σ vs) vs = wipe σ vs
  | [], _ => rfl
  | v :: vs, σ => by
    show (wipe ((wipe σ vs).set v none) vs).set v none = (wipe σ vs).set v none
    rw [wipe_cm, wipe_wipe vs σ, List.set_set]
theorem wipe_1 {i : Nat} {x : Option V} {vs : List Nat} {σ : L2.St} {P : Prop} (h : i ∈ vs) (q : P) : wipe ((wipe σ vs).set i x) vs = wipe σ vs ∧ P := ⟨by rw [wipe_set h, wipe_wipe], q⟩
theorem wipe_2 {i j : Nat} {x y : Option V} {vs : List Nat} {σ : L2.St} {P : Prop} (h : i ∈ vs) (h2 : j ∈ vs) (q : P) : wipe (((wipe σ vs).set i x).set j y) vs = wipe σ vs ∧ P := ⟨by rw [wipe_set h2, wipe_set h, wipe_wipe], q⟩
theorem lst_same {K : PySem.W.Frag} {H H' : Hp} {a : Addr} {xs : List V} (h : SqL K H a xs) (e : Same H H') : SqL K H' a xs := by
  rcases h with (h | ⟨o, h⟩) | h
  · exact .inl (.inl (e _ _ h))
  · exact .inl (.inr ⟨o, e _ _ h⟩)
  · exact .inr h
section
variable {K : PySem.W.Frag} {H : Hp} {Q : VK}
theorem isi_ii {v : Int} {P : Bool → Prop} (q : P true) : ∃ (x c : V) (t u : Value) (b : Bool), [V.int v, V.ty "int"] = [x, c] ∧ ClsV c u ∧ TyX K H x t ∧ PySem.W.kitOne K t u = some b ∧ P b := ⟨.int v, .ty "int", .type "int", .type "int", true, rfl, .ty _, .base (.int v), if_pos (beq_self_eq_true _), q⟩
theorem kit_ib : PySem.W.kitOne K (.type "int") (.type "bool") = some false := by
  unfold PySem.W.kitOne
  rw [if_neg (by decide)]
  rfl
theorem isi_ib {v : Int} {P : Bool → Prop} (q : P false) : ∃ (x c : V) (t u : Value) (b : Bool), [V.int v, V.ty "bool"] = [x, c] ∧ ClsV c u ∧ TyX K H x t ∧ PySem.W.kitOne K t u = some b ∧ P b := ⟨.int v, .ty "bool", .type "int", .type "bool", false, rfl, .ty _, .base (.int v), kit_ib, q⟩
theorem isi_tt {a : Addr} {xs : List V} {P : Bool → Prop} (h : SqT K H a xs) (q : P true) : ∃ (x c : V) (t u : Value) (b : Bool), [V.ref a, V.ty "tuple"] = [x, c] ∧ ClsV c u ∧ TyX K H x t ∧ PySem.W.kitOne K t u = some b ∧ P b := by
  have e : PySem.W.kitOne K (.type "tuple") (.type "tuple") = some true := if_pos (beq_self_eq_true _)
  rcases h with (h | ⟨o, h⟩) | ⟨o, its, n, h1, h2, _⟩
  · exact ⟨.ref a, .ty "tuple", .type "tuple", .type "tuple", true, rfl, .ty _, .base (.tup h), e, q⟩
  · exact ⟨.ref a, .ty "tuple", .type "tuple", .type "tuple", true, rfl, .ty _, .fTuple h, e, q⟩
  · exact ⟨.ref a, .ty "tuple", .type "tuple", .type "tuple", true, rfl, .ty _, .kTuple h1 h2, e, q⟩
theorem isi_ss {x : Str} {P : Bool → Prop} (q : P true) : ∃ (y c : V) (t u : Value) (b : Bool), [V.str x, V.ty "str"] = [y, c] ∧ ClsV c u ∧ TyX K H y t ∧ PySem.W.kitOne K t u = some b ∧ P b := ⟨.str x, .ty "str", .type "str", .type "str", true, rfl, .ty _, .base (.str x), if_pos (beq_self_eq_true _), q⟩
theorem divN1 {i : Int} {P : Prop} (q : P) : CDivN i 1 ∧ P := ⟨⟨by decide, by decide⟩, q⟩
theorem divN2 {i : Int} {P : Prop} (q : P) : CDivN i 2 ∧ P := ⟨⟨by decide, by decide⟩, q⟩
end
theorem tup_upd {K : PySem.W.Frag} {H : Hp} {a q : Addr} {xs zs : List V} {o : HO} (ha : H a = some (.lst zs)) (h : SqT K H q xs) : SqT K (upd H a o) q xs := by
  rcases h with (h | ⟨u, h⟩) | h
  · exact .inl (.inl ((upd_ne (fun e => by rw [e, ha] at h; cases h)).trans h))
  · exact .inl (.inr ⟨u, (upd_ne (fun e => by rw [e, ha] at h; cases h)).trans h⟩)
  · exact .inr h
theorem dpI {K : PySem.W.Frag} {H : Hp} {x y : V} {d e : PyData} {P : PyData → PyData → Prop} (h1 : Dp K H x d) (h2 : Dp K H y e) (s1 : SeqAt.shaped d = true) (s2 : SeqAt.shaped e = true) (q : P d e) :
    ∃ d e, Dp K H x d ∧ Dp K H y e ∧ SeqAt.shaped d = true ∧ SeqAt.shaped e = true ∧ P d e := ⟨d, e, h1, h2, s1, s2, q⟩
theorem lst_updn {K : PySem.W.Frag} {H : Hp} {a q : Addr} {xs : List V} {o : HO} (n : q ≠ a) (h : SqL K H q xs) : SqL K (upd H a o) q xs := by
  rcases h with (h | ⟨u, h⟩) | h
  · exact .inl (.inl ((upd_ne n).trans h))
  · exact .inl (.inr ⟨u, (upd_ne n).trans h⟩)
  · exact .inr h
theorem lst_new {K : PySem.W.Frag} {H : Hp} {a p : Addr} {xs : List V} {o : HO} (hp : H p = none) (h : SqL K H a xs) : SqL K (upd H p o) a xs := lst_same h (same_new hp)
theorem tup_new {K : PySem.W.Frag} {H : Hp} {a p : Addr} {xs : List V} {o : HO} (hp : H p = none) (h : SqT K H a xs) : SqT K (upd H p o) a xs := same_tup (same_new hp) h
theorem lst_trans {K : PySem.W.Frag} {H H' : Hp} {a : Addr} {xs : List V} (e : Same H H') (h : SqL K H a xs) : SqL K H' a xs := lst_same h e
theorem tup_trans {K : PySem.W.Frag} {H H' : Hp} {a : Addr} {xs : List V} (e : Same H H') (h : SqT K H a xs) : SqT K H' a xs := same_tup e h
end G41
set_option Elab.async false
set_option linter.all false
set_option maxRecDepth 100000
set_option maxHeartbeats 4000000
namespace G41
open PySem PySem.Spec PyProof.Rows L2
/-! the module's dict of sizes, asked at 3 -/
structure UnkF (K : PySem.W.Frag) (w : World) (mg : Str → Option Value) (a : Addr) : Prop where
  nm : mg "UNKNOWNS" = some (.ref a)
  low : (a == sysModules) = false
  map : ∀ (prog : Program) (h : Heap), K.In h → ∃ f, h.MapOf (intKind prog w) a f ∧ ∃ t, f 3 = some (.int 2 t)
def tUnk (ti : TE) : TE := fun σ H Q => ti σ H fun y H1 => y = .int 3 ∧ Q (.int 2) H1
def rUnkN (a : Addr) : R2 := fun x y H Q => x = .int 3 ∧ y = .ref a ∧ Q (.bl false) H
section
variable {X : Cx} {a : Addr} {i : Expr} {ti : TE} {p pos : Pos}
theorem int_is {prog : Program} {w : World} (k : Int) (t : Tok) : (intKind prog w).is k (.int k t) = true := by
  show Value.isInt k (.int k t) = true
  simp [Value.isInt]
theorem pe_unkV (U : UnkF X.K X.w X.mg a) (hg : Gl X "UNKNOWNS" := by rfl) : PE X (.Name "UNKNOWNS" p) (tC (.ref a)) := pe_glob hg U.nm rfl (by decide)
theorem pe_unk (U : UnkF X.K X.w X.mg a) (hi : PE X i ti) (hs : NoSl i) (hg : Gl X "UNKNOWNS" := by rfl) : PE X (.Subscript (.Name "UNKNOWNS" p) i pos) (tUnk ti) := by
  refine ⟨fun pins s σ H Q I h => ?_⟩
  refine subD_of PySem.F.slot_dict_getitem.lookup hs (thn ((pe_unkV (p := p) U hg).run pins s σ H (fun x H1 => x = .ref a ∧ tUnk ti σ H1 Q) I ⟨rfl, h⟩) fun u s1 ⟨x, H1, I1, rx, ex, q1⟩ => thn (hi.run pins s1 σ H1 _ I1 q1) fun iv s2 ⟨y, H2, I2, ry, ey, q2⟩ => ?_)
  subst ex
  subst ey
  obtain rfl : u = Value.ref a := rx
  obtain ⟨t, rfl⟩ := ry
  obtain ⟨f, hm, t', hf⟩ := U.map X.prog s2.heap I2.kIn
  exact ⟨hm.typeIs, wpAny_getItem_of (int_is 3 t) hm hf ⟨.int 2, H2, I2.tok _, ⟨_, rfl⟩, q2⟩⟩
def tUnkN (ti : TE) : TE := fun σ H Q => ti σ H fun y H1 => y = .int 3 ∧ Q (.bl false) H1
theorem pc_unkN (U : UnkF X.K X.w X.mg a) (hi : PE X i ti) (hg : Gl X "UNKNOWNS" := by rfl) : PC X .NotIn i (.Name "UNKNOWNS" p) (tUnkN ti) := by
  refine ⟨fun pins s σ H Q I h => ?_⟩
  refine thn (hi.run pins s σ H _ I h) fun iv s1 ⟨y, H1, I1, ry, ey, q1⟩ => thn ((pe_unkV (p := p) U hg).run pins s1 σ H1 (fun x H2 => x = .ref a ∧ Q (.bl false) H2) I1 ⟨rfl, q1⟩) fun u s2 ⟨x, H2, I2, rx, ex, q2⟩ => ?_
  subst ey
  subst ex
  obtain rfl : u = Value.ref a := rx
  obtain ⟨t, rfl⟩ := ry
  obtain ⟨f, hm, t', hf⟩ := U.map X.prog s2.heap I2.kIn
  refine wpAny_notIn_of (int_is 3 t) U.low hm ?_
  rw [hf]
  exact ⟨.bl false, H2, I2.tok _, rfl, q2⟩
theorem op_unkN (U : UnkF X.K X.w X.mg a) : OpR X (compareOp .NotIn) (rUnkN a) := by
  intro pins s σ H x y v u Q I rx ry h
  obtain ⟨rfl, rfl, q⟩ := h
  obtain ⟨t, rfl⟩ := rx
  cases ry
  obtain ⟨f, hm, t', hf⟩ := U.map X.prog s.heap I.kIn
  refine wpAny_notIn_of (int_is 3 t) U.low hm ?_
  rw [hf]
  exact ⟨.bl false, H, I.tok _, rfl, q⟩
end
theorem enI {K : PySem.W.Frag} {H : Hp} {a : Addr} {xs : List V} {P : Addr → List V → Prop} (h : SqT K H a xs) (q : P a xs) : ∃ b ys, [V.ref a] = [V.ref b] ∧ SqT K H b ys ∧ P b ys := ⟨a, xs, rfl, h, q⟩
theorem enL {K : PySem.W.Frag} {H : Hp} {a : Addr} {xs : List V} {P : Addr → List V → Prop} (h : SqL K H a xs) (q : P a xs) : ∃ b ys, [V.ref a] = [V.ref b] ∧ SqL K H b ys ∧ P b ys := ⟨a, xs, rfl, h, q⟩
theorem rep2I {H : Hp} {a : Addr} {xs : List V} {P : Addr → Int → List V → Prop} (h : H a = some (.lst xs)) (hl : xs.length * 2 ≤ sizeLine) (q : P a 2 xs) :
    ∃ l k xs, V.ref a = V.ref l ∧ V.int 2 = V.int k ∧ H l = some (.lst xs) ∧ -(2 ^ 63) ≤ k ∧ k < 2 ^ 63 ∧ xs.length * k.toNat ≤ sizeLine ∧ P l k xs := ⟨a, 2, xs, rfl, rfl, h, by decide, by decide, hl, q⟩
def rJoin (K : PySem.W.Frag) : V → List V → Hp → VK → Prop := fun x xs H Q => ∃ a p, ∃ ys : List Str, x = .str a ∧ xs = [.ref p] ∧ (SqL K H p (ys.map V.str) ∨ SqT K H p (ys.map V.str)) ∧
    (ys.map (·.length)).sum + ys.length * a.length ≤ 16777216 ∧ Q (.str (Txt.join a ys)) H
theorem k_join {X : Cx} {K : PySem.W.Frag} (h : X.K = K) : MtR X "str.join" (rJoin K) := by subst h; exact mt_join
theorem lg_small {n : Nat} (h : n ≤ 1000000) : n.log2 < 1920 := by
  by_cases e : n = 0
  · subst e; decide
  · exact (Nat.log2_lt e).2 (Nat.lt_of_le_of_lt h (Nat.lt_of_lt_of_le (show 1000000 < 2 ^ 20 by decide) (Nat.pow_le_pow_right (by decide) (by decide))))
theorem fldI {K : PySem.W.Frag} {H : Hp} {a C dx : Addr} {fs : List (Str × V)} {f : Str} {P : Addr → Addr → Addr → List (Str × V) → Prop} (h : H a = some (.ins C dx fs)) (c : Cls K C) (n : NoAttr K C f) (hl : fs.length < 1000) (q : P a C dx fs) :
    ∃ b C dx fs, V.ref a = V.ref b ∧ H b = some (.ins C dx fs) ∧ Cls K C ∧ NoAttr K C f ∧ fs.length < 1000 ∧ P b C dx fs := ⟨a, C, dx, fs, rfl, h, c, n, hl, q⟩
theorem joinI3 {K : PySem.W.Frag} {H : Hp} {p : Addr} {x y z a : Str} {P : Str → Addr → List Str → Prop} (h : SqL K H p [.str x, .str y, .str z]) (hx : x.length ≤ 1921) (hy : y.length ≤ 1921) (hz : z.length ≤ 1921) (ha : a.length ≤ 1) (q : P a p [x, y, z]) :
    ∃ b r, ∃ ys : List Str, V.str a = V.str b ∧ [V.ref p] = [V.ref r] ∧ (SqL K H r (ys.map V.str) ∨ SqT K H r (ys.map V.str)) ∧ (ys.map (·.length)).sum + ys.length * b.length ≤ 16777216 ∧ P b r ys :=
  ⟨a, p, [x, y, z], rfl, rfl, .inl h, by simp only [List.map_cons, List.map_nil, List.sum_cons, List.sum_nil, List.length_cons, List.length_nil]; omega, q⟩
/-- all but what stands at o is kept -/
def SameX (o : Addr) (H H' : Hp) : Prop := ∀ b u, b ≠ o → H b = some u → H' b = some u
theorem sx_same {o : Addr} {H H1 H2 : Hp} (h : SameX o H H1) (e : Same H1 H2) : SameX o H H2 := fun b u n hb => e b u (h b u n hb)
theorem sx_of {o : Addr} {H H1 : Hp} (e : Same H H1) : SameX o H H1 := fun b u _ hb => e b u hb
theorem sx_upd {o : Addr} {H H1 : Hp} {v : HO} (h : SameX o H H1) : SameX o H (upd H1 o v) := fun b u n hb => (upd_ne n).trans (h b u n hb)
theorem tup_updI {K : PySem.W.Frag} {H : Hp} {a q C dx : Addr} {fs : List (Str × V)} {xs : List V} {o : HO} (ha : H a = some (.ins C dx fs)) (h : SqT K H q xs) : SqT K (upd H a o) q xs := by
  rcases h with (h | ⟨u, h⟩) | h
  · exact .inl (.inl ((upd_ne (fun e => by rw [e, ha] at h; cases h)).trans h))
  · exact .inl (.inr ⟨u, (upd_ne (fun e => by rw [e, ha] at h; cases h)).trans h⟩)
  · exact .inr h
end G41
set_option Elab.async false
set_option linter.all false
set_option maxRecDepth 100000
set_option maxHeartbeats 4000000
namespace G41
open PySem PySem.Spec PyProof.Rows L2
abbrev s_common_divisor : Stmt := top 22
abbrev nm_common_divisor : List Str := ["one", "other"]
abbrev ps_common_divisor : List Str := ["one", "other"]
theorem sc_common_divisor : FnScope nm_common_divisor ps_common_divisor (defScope s_common_divisor) := ⟨rfl, rfl, rfl, by decide +kernel, rfl, by decide +kernel, by decide +kernel⟩
abbrev s_common_of : Stmt := top 23
abbrev nm_common_of : List Str := ["values", "found", "value"]
abbrev ps_common_of : List Str := ["values"]
theorem sc_common_of : FnScope nm_common_of ps_common_of (defScope s_common_of) := ⟨rfl, rfl, rfl, by decide +kernel, rfl, by decide +kernel, by decide +kernel⟩
abbrev s_root_of : Stmt := top 24
abbrev nm_root_of : List Str := ["value", "low", "high", "middle"]
abbrev ps_root_of : List Str := ["value"]
theorem sc_root_of : FnScope nm_root_of ps_root_of (defScope s_root_of) := ⟨rfl, rfl, rfl, by decide +kernel, rfl, by decide +kernel, by decide +kernel⟩
abbrev s_is_square : Stmt := top 25
abbrev nm_is_square : List Str := ["value"]
abbrev ps_is_square : List Str := ["value"]
theorem sc_is_square : FnScope nm_is_square ps_is_square (defScope s_is_square) := ⟨rfl, rfl, rfl, by decide +kernel, rfl, by decide +kernel, by decide +kernel⟩
abbrev s_divisors_of : Stmt := top 26
abbrev nm_divisors_of : List Str := ["value", "low", "high", "step"]
abbrev ps_divisors_of : List Str := ["value"]
theorem sc_divisors_of : FnScope nm_divisors_of ps_divisors_of (defScope s_divisors_of) := ⟨rfl, rfl, rfl, by decide +kernel, rfl, by decide +kernel, by decide +kernel⟩
def spGcd : Sp := fun vs H Q _ => ∃ a b : Int, vs = [.int a, .int b] ∧ ∀ H', Same H H' → Q (.int (Int.gcd a b : Nat)) H'
local macro_rules | `(tactic| fail "rd1") => `(tactic| first
  | refine ⟨_, rfl, ?_⟩
  | refine ⟨_, _, rfl, rfl, ?_⟩
  | refine ⟨rfl, ?_⟩
  | refine ⟨_, _, rfl, ?_⟩
  | refine ⟨_, _, _, rfl, ?_⟩
  | fail)
local macro_rules | `(tactic| fail "rd") => `(tactic| repeat (fail "rd1"))
local macro_rules | `(tactic| fail "nn") => `(tactic| first
  | with_reducible assumption
  | (apply lkn; fail "ne"; fail "nn")
  | (apply none_same; with_reducible assumption; fail "sm"))
local macro_rules | `(tactic| fail "ne") => `(tactic| first
  | with_reducible assumption
  | exact (old_ne (by with_reducible assumption) (by with_reducible assumption)).1
  | exact (old_ne (by with_reducible assumption) (by with_reducible assumption)).2
  | (apply ne_new1; with_reducible assumption; fail "lk")
  | (apply ne_new2; with_reducible assumption; fail "lk"))
local macro_rules | `(tactic| fail "lk") => `(tactic| first
  | with_reducible assumption
  | exact upd_same
  | (apply lkn; fail "ne"; fail "lk")
  | (apply same_upd; with_reducible assumption; fail "lk"))
local macro_rules | `(tactic| fail "sm") => `(tactic| first
  | with_reducible assumption
  | exact Same.refl _
  | (apply same_mut; fail "sm"; fail "nn")
  | (apply trans_same; with_reducible assumption; fail "sm"))
local macro_rules | `(tactic| fail "sl") => `(tactic| first
  | with_reducible assumption
  | (apply lst_same; with_reducible assumption; fail "sm")
  | (apply SqL.of; fail "lk")
  | (apply lst_new; fail "nn"; fail "sl")
  | (apply lst_updn; fail "ne"; fail "sl")
  | (apply lst_trans; with_reducible assumption; fail "sl"))
local macro_rules | `(tactic| fail "st") => `(tactic| first
  | with_reducible assumption
  | (apply tup_same; with_reducible assumption; fail "sm")
  | (apply SqT.of; fail "lk")
  | (apply tup_new; fail "nn"; fail "st")
  | (apply tup_upd; fail "lk"; fail "st")
  | (apply tup_trans; with_reducible assumption; fail "st")
  | (apply tup_updI; fail "lk"; fail "st"))
local macro_rules | `(tactic| fail "nw") => `(tactic| (repeat (refine nwI (fun _ _ => ?_))); refine fun _ => ?_)
local macro_rules | `(tactic| fail "ln") => `(tactic| first
  | exact lenLt (Nat.le_of_ble_eq_true rfl)
  | exact Nat.le_of_ble_eq_true rfl)
local macro_rules | `(tactic| fail "un") => `(tactic| first
  | apply un_lcR
  | (refine un_lc2 2 ?_)
  | (apply un_lcL; fail "sl")
  | (apply un_lcT; fail "st")
  | (apply un_lcZ; fail "sl")
  | (apply un_lcZT; fail "st")
  | (apply un_lcZM; fail "sl"))
local macro_rules | `(tactic| fail "uf") => `(tactic| first
  | apply un_forR
  | (apply un_forL; fail "sl")
  | (apply un_forT; fail "st")
  | (apply un_forZ; fail "sl")
  | (apply un_forZT; fail "st")
  | (apply un_forZM; fail "sl")
  | (apply un_forE; fail "st"))
local macro_rules | `(tactic| fail "ns") => `(tactic| try simp only [wipe, L2.start, List.set_cons_zero, List.set_cons_succ, List.map_cons, List.map_nil, List.length_cons, List.length_nil, List.replicate_succ, List.replicate_zero, List.cons_append, List.nil_append, Nat.reduceAdd, Nat.reduceSub])
local macro_rules | `(tactic| fail "da") => `(tactic| first
  | exact DpAll.nil
  | (apply DpAll.cons; (first | exact Dp.int _ | (apply Dp.tup; fail "st"; fail "da") | (apply Dp.lst; fail "sl"; fail "da") | exact Dp.bl _ | exact Dp.str _); fail "da"))
local macro_rules | `(tactic| fail "dp") => `(tactic| first
  | exact Dp.int _
  | (apply Dp.tup; fail "st"; fail "da")
  | (apply Dp.lst; fail "sl"; fail "da"))
local macro_rules | `(tactic| fail "so") => `(tactic| first
  | (apply sx_upd; fail "so")
  | (apply sx_mut; fail "so"; fail "nn")
  | (apply sx_of; fail "sm"))
local macro_rules | `(tactic| fail "lg") => `(tactic| (refine PyProof.Rows.int_text_len_1921 (lg_small ?_); omega))
local macro_rules | `(tactic| fail "sx1") => `(tactic| (conv => whnf); first
  | (refine fun _ => ?_; fail "nw"; first | fail "un" | skip)
  | (refine fun _ => ?_)
  | (refine wipe_1 (by decide) ?_; fail "ns")
  | (refine wipe_2 (by decide) (by decide) ?_; fail "ns")
  | (refine ⟨_, rfl, ?_⟩)
  | (refine ⟨rfl, ?_⟩)
  | (refine ⟨_, _, rfl, rfl, ?_⟩)
  | (refine ⟨_, _, rfl, ?_⟩)
  | (refine ⟨_, _, _, rfl, ?_⟩)
  | apply un_forR
  | (apply un_forL; fail "sl")
  | (apply un_forT; fail "st")
  | (apply un_forZ; fail "sl")
  | (apply un_forZT; fail "st")
  | (apply un_forZM; fail "sl")
  | (apply un_forE; fail "st")
  | apply un_inR
  | (apply tyI; fail "sl")
  | (apply dpI; fail "dp"; fail "dp"; rfl; rfl)
  | (apply gtI; fail "st"; rfl)
  | apply isi_ii
  | apply isi_ib
  | (apply isi_tt; fail "st")
  | refine divN1 ?_
  | (apply nx_range; exact Nat.le_of_ble_eq_true rfl)
  | (apply nx_list; fail "sl"; rfl)
  | (apply nx_tup; fail "st"; rfl)
  | (apply nx_zip; fail "sl"; fail "sl"; rfl; rfl)
  | (apply nx_zipT; fail "st"; fail "st"; rfl; rfl)
  | (apply nx_zipM; fail "sl"; fail "st"; rfl; rfl)
  | (apply nx_enumT; fail "st"; rfl)
  | (apply st_range; fail "ln")
  | (apply st_list; fail "sl"; fail "ln")
  | (apply st_tup; fail "st"; fail "ln")
  | (apply st_zip; fail "sl"; fail "sl"; fail "ln")
  | (apply st_zipT; fail "st"; fail "st"; fail "ln")
  | (apply st_zipM; fail "sl"; fail "st"; rfl; rfl)
  | (apply st_enumT; fail "st"; rfl)
  | (apply mulR; with_reducible assumption)
  | (apply mulL; with_reducible assumption)
  | (apply accI; fail "lk"; fail "ln")
  | (apply apdI; fail "lk"; fail "ln")
  | (apply ixLI; fail "sl"; rfl)
  | (apply ixTI; fail "st"; rfl)
  | (apply setI; fail "lk"; rfl)
  | (apply slLI; fail "sl")
  | (apply sum2I; fail "sl")
  | (apply rep2I; fail "lk"; exact Nat.le_of_ble_eq_true rfl)
  | (refine And.intro (lg_small ?_) ?_; omega)
  | (apply joinI3; fail "sl"; fail "lg"; fail "lg"; fail "lg"; decide)
  | (apply enI; fail "st")
  | (apply enL; fail "sl")
  | (apply ppL; fail "sl")
  | (apply ppT; fail "st")
  | (apply pqL; fail "sl")
  | (apply pqT; fail "st")
  | (apply pzL; fail "sl"; fail "sl")
  | (apply pzT; fail "st"; fail "st")
  | (apply pzM; fail "sl"; fail "st")
  | (refine Or.inl ⟨_, rfl, ?_⟩)
  | (refine Or.inr ⟨_, rfl, ?_⟩)
  | (apply pxL; fail "sl")
  | (apply pxT; fail "st")
  | (refine iteTI rfl ?_)
  | (refine iteFI Bool.false_ne_true ?_)
  | (refine iteTI ?_ ?_; (simp [*]; done))
  | (refine iteFI ?_ ?_; (simp [*]; done))
  | (refine And.intro ?_ ?_; first | decide | (simp only [List.length_append, List.length_cons, List.length_nil]; decide)))
local macro_rules | `(tactic| fail "sx") => `(tactic| repeat (fail "sx1"))
local macro_rules | `(tactic| fail "tx1") => `(tactic| (conv => whnf); first
  | (refine fun _ => ?_; fail "nw")
  | (refine fun _ => ?_)
  | (refine wipe_1 (by decide) ?_; fail "ns")
  | (refine wipe_2 (by decide) (by decide) ?_; fail "ns")
  | (refine ⟨_, rfl, ?_⟩)
  | (refine ⟨rfl, ?_⟩)
  | (refine ⟨_, _, rfl, rfl, ?_⟩)
  | (refine ⟨_, _, rfl, ?_⟩)
  | (refine ⟨_, _, _, rfl, ?_⟩)
  | apply un_forR
  | (apply un_forL; fail "sl")
  | (apply un_forT; fail "st")
  | (apply un_forZ; fail "sl")
  | (apply un_forZT; fail "st")
  | (apply un_forZM; fail "sl")
  | (apply un_forE; fail "st")
  | apply un_inR
  | (apply tyI; fail "sl")
  | (apply dpI; fail "dp"; fail "dp"; rfl; rfl)
  | (apply gtI; fail "st"; rfl)
  | apply isi_ii
  | apply isi_ib
  | (apply isi_tt; fail "st")
  | refine divN1 ?_
  | (apply nx_range; exact Nat.le_of_ble_eq_true rfl)
  | (apply nx_list; fail "sl"; rfl)
  | (apply nx_tup; fail "st"; rfl)
  | (apply nx_zip; fail "sl"; fail "sl"; rfl; rfl)
  | (apply nx_zipT; fail "st"; fail "st"; rfl; rfl)
  | (apply nx_zipM; fail "sl"; fail "st"; rfl; rfl)
  | (apply nx_enumT; fail "st"; rfl)
  | (apply st_range; fail "ln")
  | (apply st_list; fail "sl"; fail "ln")
  | (apply st_tup; fail "st"; fail "ln")
  | (apply st_zip; fail "sl"; fail "sl"; fail "ln")
  | (apply st_zipT; fail "st"; fail "st"; fail "ln")
  | (apply st_zipM; fail "sl"; fail "st"; rfl; rfl)
  | (apply st_enumT; fail "st"; rfl)
  | (apply mulR; with_reducible assumption)
  | (apply mulL; with_reducible assumption)
  | (apply accI; fail "lk"; fail "ln")
  | (apply apdI; fail "lk"; fail "ln")
  | (apply ixLI; fail "sl"; rfl)
  | (apply ixTI; fail "st"; rfl)
  | (apply setI; fail "lk"; rfl)
  | (apply slLI; fail "sl")
  | (apply sum2I; fail "sl")
  | (apply rep2I; fail "lk"; exact Nat.le_of_ble_eq_true rfl)
  | (refine And.intro (lg_small ?_) ?_; omega)
  | (apply joinI3; fail "sl"; fail "lg"; fail "lg"; fail "lg"; decide)
  | (apply enI; fail "st")
  | (apply enL; fail "sl")
  | (apply ppL; fail "sl")
  | (apply ppT; fail "st")
  | (apply pqL; fail "sl")
  | (apply pqT; fail "st")
  | (apply pzL; fail "sl"; fail "sl")
  | (apply pzT; fail "st"; fail "st")
  | (apply pzM; fail "sl"; fail "st")
  | (refine Or.inl ⟨_, rfl, ?_⟩)
  | (refine Or.inr ⟨_, rfl, ?_⟩)
  | (apply pxL; fail "sl")
  | (apply pxT; fail "st")
  | (refine iteTI rfl ?_)
  | (refine iteFI Bool.false_ne_true ?_)
  | (refine iteTI ?_ ?_; (simp [*]; done))
  | (refine iteFI ?_ ?_; (simp [*]; done))
  | (refine And.intro ?_ ?_; first | decide | (simp only [List.length_append, List.length_cons, List.length_nil]; decide)))
local macro_rules | `(tactic| fail "tx") => `(tactic| repeat (fail "tx1"))
local macro_rules | `(tactic| fail "om") => `(tactic| first
  | omega
  | (dsimp only; omega)
  | (split <;> omega)
  | (dsimp only; split <;> omega))
local macro_rules | `(tactic| fail "bx1") => `(tactic| first
  | (refine iteD (fun _ => ?_) (fun _ => ?_))
  | (refine iteN (fun _ => ?_) (fun _ => ?_))
  | (refine iteE (fun _ => ?_) (fun _ => ?_))
  | (refine iteTI rfl ?_)
  | (refine iteFI Bool.false_ne_true ?_)
  | (refine ⟨_, rfl, ?_⟩)
  | (refine ⟨_, _, rfl, rfl, ?_⟩)
  | (refine ⟨rfl, ?_⟩)
  | (refine ⟨_, _, rfl, ?_⟩)
  | (apply mulR; with_reducible assumption)
  | (apply mulL; with_reducible assumption)
  | (apply mulL; refine ⟨?_, ?_⟩ <;> fail "om")
  | (apply powI; fail "om"))
local macro_rules | `(tactic| fail "bx") => `(tactic| repeat' (fail "bx1"))

section
variable {P : Program} {w : World} {K : PySem.W.Frag} {mg : Str → Option Value} {base : Heap} {f : Addr} {fd : FuncData}
theorem ok_common_divisor (T : Tx K mg) (F : FnP K "common_divisor" s_common_divisor f fd) : FnOk P w K mg base CX0 1 f fd ps_common_divisor spGcd := by
  refine F.ok sc_common_divisor (fun vs H Q E h => ?_) (fun cdv A outer s H vs Q E hr h => ?_)
  · obtain ⟨a, b, rfl, _⟩ := h
    rfl
  · obtain ⟨a, b, rfl, k⟩ := h
    refine ⟨_, PSs.nox (pss_cons (ps_par (i := 0) (j := 1) rfl sc_common_divisor.nd rfl rfl (by decide) rfl rfl (pa_cons (pe_callB call_abs (by rfl) T.b_abs (by decide +kernel) (pa_cons (pv 0) pa_nil)) (pa_cons (pe_callB call_abs (by rfl) T.b_abs (by decide +kernel) (pa_cons (pv 1) pa_nil)) pa_nil)) (by rfl))
    (pss_cons (ps_while PassesOwn.never (pt_cmpR op_ne (pv 1) pe_int (nomark _))
    (pss_one (ps_par (i := 0) (j := 1) rfl sc_common_divisor.nd rfl rfl (by decide) rfl rfl (pa_cons (pv 1) (pa_cons (pe_op op_mod (pv 0) (pv 1)) pa_nil)) (by rfl))))
    (pss_one (ps_ret (pv 0))))), ?_⟩
    fail "rd"
    refine ⟨fun m σ H' => ∃ x y : Int, σ = [some (.int x), some (.int y)] ∧ Same H H' ∧ 0 ≤ x ∧ 0 ≤ y ∧ Int.gcd x y = Int.gcd a b ∧ m = y.toNat, ⟨_, _, _, rfl, Same.refl _, ?_, ?_, ?_, rfl⟩, ?_⟩
    · split <;> omega
    · split <;> omega
    · split <;> split <;> simp [Int.gcd_neg, Int.neg_gcd]
    · rintro m σ H' ⟨x, y, rfl, hs, hx, hy, hg, rfl⟩
      fail "rd"
      refine iteN (fun h0 => ?_) (fun h0 => ?_)
      · refine ⟨_, fun _ _ h => h, ?_⟩
        fail "rd"
        have e1 : 0 < y := by omega
        refine ⟨e1, ?_⟩
        fail "rd"
        refine ⟨_, ?_, _, _, rfl, hs, hy, Int.emod_nonneg _ h0, ?_, rfl⟩
        · have := Int.emod_lt_of_pos x e1
          have := Int.emod_nonneg x h0
          omega
        · rw [← hg]
          obtain ⟨x', rfl⟩ := Int.eq_ofNat_of_zero_le hx
          obtain ⟨y', rfl⟩ := Int.eq_ofNat_of_zero_le hy
          show Nat.gcd (y' : Int).natAbs ((x' : Int) % (y' : Int)).natAbs = Nat.gcd (x' : Int).natAbs (y' : Int).natAbs
          rw [← Int.natCast_emod]
          simp only [Int.natAbs_natCast]
          rw [Nat.gcd_comm x' y', Nat.gcd_rec y' x', Nat.gcd_comm]
      · fail "rd"
        subst h0
        rw [Int.gcd_zero_right] at hg
        have e : (x : Int) = ((Int.gcd a b : Nat) : Int) := by rw [← hg]; omega
        rw [e]
        exact k _ hs

def spGcd3 (K : PySem.W.Frag) : Sp := fun vs H Q _ => ∃ (p : Addr) (t : T3), vs = [.ref p] ∧ SqT K H p [.int t.1, .int t.2.1, .int t.2.2] ∧ ∀ H', Same H H' → Q (.int (gcd3 t : Nat)) H'
theorem ok_common_of (T : Tx K mg) (C_common_divisor : Cal P w K mg base 1 "common_divisor" ps_common_divisor spGcd) (F : FnP K "common_of" s_common_of f fd) : FnOk P w K mg base CX0 2 f fd ps_common_of (spGcd3 K) := by
  refine F.ok sc_common_of (fun vs H Q E h => ?_) (fun cdv A outer s H vs Q E hr h => ?_)
  · obtain ⟨p, t, rfl, _⟩ := h
    rfl
  · obtain ⟨p, t, rfl, hp, k⟩ := h
    obtain ⟨a, b, c⟩ := t
    refine ⟨_, PSs.nox (pss_cons (ps_set (i := 1) sc_common_of.nd rfl (Or.inl rfl) pe_int)
    (pss_cons (ps_for PassesOwn.never rfl (k_pt (K := K) rfl (pv 0)) (pg_name (i := 2) sc_common_of.nd rfl (by first | exact Or.inl rfl | exact Or.inr rfl))
    (pss_one (ps_set (i := 1) sc_common_of.nd rfl (Or.inl rfl) (pe_cal C_common_divisor hr (pa_cons (pv 1) (pa_cons (pv 2) pa_nil))))))
    (pss_one (ps_ret (pv 1))))), ?_⟩
    fail "rd"
    refine ⟨⟨_, hp⟩, for_tup (K := K) (a := p) (xs := [.int a, .int b, .int c]) (fun i σ H' => ∃ (v : Option V), σ = [some (.ref p), some (.int (([a, b, c].take i).foldl (fun x y => ((Int.gcd x y : Nat) : Int)) 0)), v] ∧ Same H H')
      ⟨_, rfl, Same.refl _⟩ (fun i σ H' _ ⟨_, _, hs⟩ => same_tup hs hp) ?_ ?_⟩
    · rintro i x σ H' hi ⟨v, rfl, hs⟩
      obtain ⟨z, hz, rfl⟩ : ∃ z, [a, b, c][i]? = some z ∧ x = .int z := by
        match i, hi with
        | 0, hi => exact ⟨a, rfl, (Option.some.inj hi).symm⟩
        | 1, hi => exact ⟨b, rfl, (Option.some.inj hi).symm⟩
        | 2, hi => exact ⟨c, rfl, (Option.some.inj hi).symm⟩
      fail "rd"
      intro H2 h2
      refine ⟨some (.int z), ?_, hs.trans h2⟩
      have e : [a, b, c].take (i + 1) = [a, b, c].take i ++ [z] := by rw [List.take_add_one, hz]; rfl
      rw [e, List.foldl_append]
      rfl
    · rintro σ H' ⟨v, rfl, hs⟩
      fail "rd"
      exact k _ hs
def spRoot : Sp := fun vs H Q _ => ∃ v : Int, vs = [.int v] ∧ 0 ≤ v ∧ v < 1000000 ∧ ∀ H', Same H H' → Q (.int (isq v)) H'
theorem sq_ge {h : Int} (h1 : 1 ≤ h) : h ≤ h * h := by
  have := Int.mul_le_mul_of_nonneg_left h1 (show 0 ≤ h by omega)
  omega
theorem mul_small {x y : Int} (h : -(2 ^ 64) < x ∧ x < 2 ^ 64) : CMul x y := .inl h
theorem ok_root_of (T : Tx K mg) (F : FnP K "root_of" s_root_of f fd) : FnOk P w K mg base CX0 1 f fd ps_root_of spRoot := by
  refine F.ok sc_root_of (fun vs H Q E h => ?_) (fun cdv A outer s H vs Q E hr h => ?_)
  · obtain ⟨a, rfl, _⟩ := h
    rfl
  · obtain ⟨v, rfl, h0, hb, k⟩ := h
    refine ⟨_, PSs.nox (pss_cons (ps_asg (pe_tup (pa_cons pe_int (pa_cons pe_int pa_nil))) (k_tup (K := K) (n := 2) rfl (by rfl) (pgs_cons (pg_name (i := 1) sc_root_of.nd rfl (by first | exact Or.inl rfl | exact Or.inr rfl)) (pgs_cons (pg_name (i := 2) sc_root_of.nd rfl (by first | exact Or.inl rfl | exact Or.inr rfl)) pgs_nil))))
    (pss_cons (ps_while PassesOwn.never (pt_cmpR op_le (pe_op op_mul (pv 2) (pv 2)) (pv 0) (nomark _))
    (pss_one (ps_set (i := 2) sc_root_of.nd rfl (Or.inl rfl) (pe_op op_mul pe_int (pv 2)))))
    (pss_cons (ps_while PassesOwn.never (pt_cmpR op_gt (pe_op op_sub (pv 2) (pv 1)) pe_int (nomark _))
    (pss_cons (ps_set (i := 3) sc_root_of.nd rfl (Or.inl rfl) (pe_op op_fdivN (pe_op op_add (pv 1) (pv 2)) pe_int))
    (pss_one (ps_if (pt_cmpR op_le (pe_op op_mul (pv 3) (pv 3)) (pv 0) (nomark _))
    (pss_one (ps_set (i := 1) sc_root_of.nd rfl (Or.inl rfl) (pv 3)))
    (pss_one (ps_set (i := 2) sc_root_of.nd rfl (Or.inl rfl) (pv 3)))))))
    (pss_one (ps_ret (pv 1)))))), ?_⟩
    refine ⟨by decide, fun p hp => ?_⟩
    refine ⟨p, _, rfl, SqT.of upd_same, rfl, ?_⟩
    fail "rd"
    refine ⟨fun m σ H' => ∃ x : Int, σ = [some (.int v), some (.int 0), some (.int x), none] ∧ Same H H' ∧ 1 ≤ x ∧ x ≤ 2 * v + 1 ∧ m = (v + 1 - x).toNat, ⟨_, _, rfl, same_new hp, by omega, by omega, rfl⟩, ?_⟩
    rintro m σ H' ⟨x, rfl, hs, hx, hx2, rfl⟩
    fail "rd"
    refine ⟨mul_small (by omega), ?_⟩
    fail "rd"
    have q1 := sq_ge hx
    refine iteD (fun h1 => ?_) (fun h1 => ?_)
    · refine ⟨_, fun _ _ h => h, ?_⟩
      fail "rd"
      refine ⟨mul_small (by omega), ?_⟩
      exact ⟨_, by omega, _, rfl, hs, by omega, by omega, rfl⟩
    · refine ⟨fun m σ H' => ∃ (l x : Int) (o : Option V), σ = [some (.int v), some (.int l), some (.int x), o] ∧ Same H H' ∧ 0 ≤ l ∧ l < x ∧ x ≤ 2 * v + 1 ∧ l * l ≤ v ∧ v < x * x ∧ m = (x - l).toNat, ⟨_, _, _, _, rfl, hs, by omega, by omega, hx2, by omega, by omega, rfl⟩, ?_⟩
      rintro m σ H' ⟨l, x, o, rfl, hs, hl, hlx, hx2, hll, hxx, rfl⟩
      fail "rd"
      refine iteD (fun h1 => ?_) (fun h1 => ?_)
      · refine ⟨_, fun _ _ h => h, ?_⟩
        fail "rd"
        refine ⟨⟨by decide, by decide⟩, ?_⟩
        fail "rd"
        have em : (l + x).fdiv 2 = (l + x) / 2 := Int.fdiv_eq_ediv_of_nonneg _ (by decide)
        have e1 := Int.emod_add_mul_ediv (l + x) 2
        have e2 := Int.emod_nonneg (l + x) (b := 2) (by decide)
        have e3 := Int.emod_lt_of_pos (l + x) (b := 2) (by decide)
        rw [← em] at e1
        refine ⟨mul_small (by omega), ?_⟩
        fail "rd"
        refine iteD (fun h2 => ?_) (fun h2 => ?_)
        · fail "rd"
          exact ⟨_, by omega, _, _, _, rfl, hs, by omega, by omega, hx2, h2, hxx, rfl⟩
        · fail "rd"
          exact ⟨_, by omega, _, _, _, rfl, hs, hl, by omega, by omega, hll, by omega, rfl⟩
      · fail "rd"
        have e : isq v = l := isq_unique hl hll (by rw [show l + 1 = x by omega]; exact hxx) (by omega)
        rw [← e]
        exact k _ hs
def spIsSquare : Sp := fun vs H Q _ => ∃ v : Int, vs = [.int v] ∧ v < 1000000 ∧ ∀ H', Same H H' → Q (.bl (decide (0 ≤ v) && decide (isq v * isq v = v))) H'
theorem ok_is_square (T : Tx K mg) (C_root_of : Cal P w K mg base 1 "root_of" ps_root_of spRoot) (F : FnP K "is_square" s_is_square f fd) : FnOk P w K mg base CX0 2 f fd ps_is_square spIsSquare := by
  refine F.ok sc_is_square (fun vs H Q E h => ?_) (fun cdv A outer s H vs Q E hr h => ?_)
  · obtain ⟨a, rfl, _⟩ := h
    rfl
  · obtain ⟨v, rfl, hb, k⟩ := h
    refine ⟨_, PSs.nox (pss_one (ps_ret (pe_and (pe_cmpR op_ge (pv 0) pe_int (nomark _)) (pe_one (pe_cmpR op_eq (pe_op op_mul (pe_cal C_root_of hr (pa_cons (pv 0) pa_nil)) (pe_cal C_root_of hr (pa_cons (pv 0) pa_nil))) (pv 0) (nomark _)))))), ?_⟩
    fail "rd"
    refine iteD (fun h1 => ?_) (fun h1 => ?_)
    · fail "rd"
      refine ⟨by omega, hb, fun H1 s1 => ?_⟩
      fail "rd"
      refine ⟨by omega, hb, fun H2 s2 => ?_⟩
      fail "rd"
      have q := isq_ok (v := v) (by omega) (by omega)
      have q0 := isq_nn v
      have q3 : isq v ≤ v := by
        rcases Int.lt_or_le 0 (isq v) with z | z
        · have := sq_ge (h := isq v) (by omega); omega
        · omega
      refine ⟨mul_small (by omega), ?_⟩
      fail "rd"
      have e : decide (V.int (isq v * isq v) = V.int v) = (decide (0 ≤ v) && decide (isq v * isq v = v)) := by simp [h1]
      rw [e]
      exact k _ (s1.trans s2)
    · have e : (decide (0 ≤ v) && decide (isq v * isq v = v)) = false := by simp; omega
      rw [e] at k
      exact k _ (Same.refl _)
structure DivF (v step : Int) (lo hi : List Int) : Prop where
  s1 : 1 ≤ step
  s2 : step ≤ 1001
  l1 : (lo.length : Int) < step
  l2 : (hi.length : Int) < step
  m1 : ∀ d, d ∈ lo ↔ (0 < d ∧ d < step ∧ ∃ e, 0 < e ∧ v = d * e)
  m2 : ∀ d, d ∈ hi ↔ ∃ e, 0 < e ∧ e < step ∧ 0 < d ∧ v = d * e ∧ e * e ≠ v
  s3 : (step - 1) * (step - 1) ≤ v
theorem step_le {v x : Int} (hb : v < 1000000) (h1 : 1 ≤ x) (h : x * x ≤ v) : x ≤ 1000 := by
  rcases Int.lt_or_le 1000 x with z | z
  · have := Int.mul_le_mul (show (1001 : Int) ≤ x by omega) (show (1001 : Int) ≤ x by omega) (by omega) (by omega)
    omega
  · exact z
theorem DivF.no {v step : Int} {lo hi : List Int} (h : DivF v step lo hi) (h1 : step * step ≤ v) (hb : v < 1000000) (hn : ¬ v % step = 0) : DivF v (step + 1) lo hi := by
  have sl := step_le hb h.s1 h1
  have nd : ∀ e, v ≠ step * e := fun e q => hn (by rw [q]; exact Int.mul_emod_right _ _)
  refine ⟨by have := h.s1; omega, by omega, by have := h.l1; omega, by have := h.l2; omega, fun d => ?_, fun d => ?_, by rw [show step + 1 - 1 = step by omega]; exact h1⟩
  · rw [h.m1 d]
    constructor
    · rintro ⟨a, b, c⟩; exact ⟨a, by omega, c⟩
    · rintro ⟨a, b, e, he, c⟩
      refine ⟨a, ?_, e, he, c⟩
      rcases Int.lt_or_le d step with z | z
      · exact z
      · have : d = step := by omega
        subst this
        exact absurd c (nd e)
  · rw [h.m2 d]
    constructor
    · rintro ⟨e, a, b, c⟩; exact ⟨e, a, by omega, c⟩
    · rintro ⟨e, a, b, c, f, g⟩
      refine ⟨e, a, ?_, c, f, g⟩
      rcases Int.lt_or_le e step with z | z
      · exact z
      · have : e = step := by omega
        subst this
        exact absurd (f.trans (Int.mul_comm _ _)) (nd d)
theorem DivF.yes {v step : Int} {lo hi : List Int} (h : DivF v step lo hi) (h1 : step * step ≤ v) (hb : v < 1000000) (h0 : 1 ≤ v) (hn : v % step = 0) :
    (step * step ≠ v → DivF v (step + 1) (lo ++ [step]) (hi ++ [v.fdiv step])) ∧ (step * step = v → DivF v (step + 1) (lo ++ [step]) hi) := by
  have sl := step_le hb h.s1 h1
  have s0 : 0 < step := by have := h.s1; omega
  have ef : v.fdiv step = v / step := Int.fdiv_eq_ediv_of_nonneg _ (by omega)
  have ev : v = step * (v / step) := by
    have := Int.emod_add_mul_ediv v step
    omega
  have ep : 0 < v / step := by
    rcases Int.lt_or_le 0 (v / step) with z | z
    · exact z
    · have := Int.mul_le_mul_of_nonneg_left z (show 0 ≤ step by omega)
      omega
  have m1 : ∀ d, d ∈ lo ++ [step] ↔ (0 < d ∧ d < step + 1 ∧ ∃ e, 0 < e ∧ v = d * e) := fun d => by
    rw [List.mem_append, h.m1 d, List.mem_singleton]
    constructor
    · rintro (⟨a, b, c⟩ | rfl)
      · exact ⟨a, by omega, c⟩
      · exact ⟨s0, by omega, _, ep, ev⟩
    · rintro ⟨a, b, c⟩
      by_cases z : d = step
      · exact .inr z
      · exact .inl ⟨a, by omega, c⟩
  refine ⟨fun hne => ⟨by omega, by omega, by have := h.l1; rw [List.length_append, List.length_singleton]; omega, by have := h.l2; rw [List.length_append, List.length_singleton]; omega, m1, fun d => ?_, by rw [show step + 1 - 1 = step by omega]; exact h1⟩,
    fun he => ⟨by omega, by omega, by have := h.l1; rw [List.length_append, List.length_singleton]; omega, by have := h.l2; omega, m1, fun d => ?_, by rw [show step + 1 - 1 = step by omega]; exact h1⟩⟩
  · rw [List.mem_append, h.m2 d, List.mem_singleton, ef]
    constructor
    · rintro (⟨e, a, b, c⟩ | rfl)
      · exact ⟨e, a, by omega, c⟩
      · exact ⟨step, s0, by omega, ep, ev.trans (Int.mul_comm _ _), hne⟩
    · rintro ⟨e, a, b, c, f, g⟩
      by_cases z : e = step
      · subst z
        refine .inr ?_
        rw [f]
        exact (Int.mul_ediv_cancel _ (by omega)).symm
      · exact .inl ⟨e, a, by omega, c, f, g⟩
  · rw [h.m2 d]
    constructor
    · rintro ⟨e, a, b, c⟩; exact ⟨e, a, by omega, c⟩
    · rintro ⟨e, a, b, c, f, g⟩
      refine ⟨e, a, ?_, c, f, g⟩
      rcases Int.lt_or_le e step with z | z
      · exact z
      · have : e = step := by omega
        subst this
        exact absurd he g
theorem DivF.fin {v step : Int} {lo hi : List Int} (h : DivF v step lo hi) (h1 : v < step * step) : ∀ d, d ∈ lo ++ hi.reverse ↔ (0 < d ∧ ∃ e, 0 < e ∧ v = d * e) := fun d => by
  rw [List.mem_append, h.m1 d, List.mem_reverse, h.m2 d]
  constructor
  · rintro (⟨a, b, c⟩ | ⟨e, a, b, c, f, g⟩)
    · exact ⟨a, c⟩
    · exact ⟨c, e, a, f⟩
  · rintro ⟨a, e, b, c⟩
    rcases Int.lt_or_le d step with z | z
    · exact .inl ⟨a, z, e, b, c⟩
    · have s1 := h.s1
      have e1 : e < step := by
        rcases Int.lt_or_le e step with y | y
        · exact y
        · have := Int.mul_le_mul z y (by omega) (by omega)
          omega
      have e2 : e * e < d * e := Int.mul_lt_mul_of_pos_right (by omega) b
      exact .inr ⟨e, b, e1, a, c, by omega⟩
def DivI (v : Int) (p q : Addr) (H : Hp) (m : Nat) (σ : L2.St) (H' : Hp) : Prop := ∃ (lo hi : List Int) (step : Int), σ = [some (.int v), some (.ref p), some (.ref q), some (.int step)] ∧ Same H H' ∧ H' p = some (.lst (lo.map V.int)) ∧ H' q = some (.lst (hi.map V.int)) ∧ DivF v step lo hi ∧ m = (1001 - step).toNat
def spDivs : Sp := fun vs H Q _ => ∃ v : Int, vs = [.int v] ∧ 1 ≤ v ∧ v < 1000000 ∧ ∀ (H' : Hp) (p : Addr) (ns : List Int), Same H H' → H p = none → H' p = some (.lst (ns.map V.int)) → (∃ z : Int, 0 ≤ z ∧ z * z ≤ v ∧ (ns.length : Int) ≤ 2 * z) → (∀ d, d ∈ ns ↔ (0 < d ∧ ∃ e, 0 < e ∧ v = d * e)) → Q (.ref p) H'
theorem ok_divisors_of (T : Tx K mg) (F : FnP K "divisors_of" s_divisors_of f fd) : FnOk P w K mg base CX0 1 f fd ps_divisors_of spDivs := by
  refine F.ok sc_divisors_of (fun vs H Q E h => ?_) (fun cdv A outer s H vs Q E hr h => ?_)
  · obtain ⟨a, rfl, _⟩ := h
    rfl
  · obtain ⟨v, rfl, h0, hb, k⟩ := h
    refine ⟨_, PSs.nox (pss_cons (ps_par3 (i := 1) (j := 2) (l := 3) rfl sc_divisors_of.nd rfl rfl rfl (by decide) (by decide) (by decide) rfl rfl rfl (pa_cons (pe_lst pa_nil) (pa_cons (pe_lst pa_nil) (pa_cons pe_int pa_nil))) (by rfl))
    (pss_cons (ps_while PassesOwn.never (pt_cmpR op_le (pe_op op_mul (pv 3) (pv 3)) (pv 0) (nomark _))
    (pss_cons (ps_if (pt_cmpR op_eq (pe_op op_mod (pv 0) (pv 3)) pe_int (nomark _))
    (pss_cons (ps_expr (pe_bm PySem.F.plainAttrs_list PySem.F.slot_list_append PySem.F.type_list_append mt_append (pv 1) (pa_cons (pv 3) pa_nil)))
    (pss_one (ps_if (pt_cmpR op_ne (pe_op op_mul (pv 3) (pv 3)) (pv 0) (nomark _))
    (pss_one (ps_expr (pe_bm PySem.F.plainAttrs_list PySem.F.slot_list_append PySem.F.type_list_append mt_append (pv 2) (pa_cons (pe_op op_fdivN (pv 0) (pv 3)) pa_nil))))
    pss_nil)))
    pss_nil)
    (pss_one (ps_aug (i := 3) sc_divisors_of.nd rfl (Or.inl rfl) pe_int ip_add))))
    (pss_one (ps_ret (pe_op op_cat (pv 1) (k_rev (K := K) rfl (pv 2))))))), ?_⟩
    refine ⟨by decide, fun p hp => ⟨by decide, fun q hq => ?_⟩⟩
    fail "rd"
    have npq : p ≠ q := fun e => by rw [e, upd_same] at hq; cases hq
    have hq0 : H q = none := by rw [upd_ne npq.symm] at hq; exact hq
    refine ⟨DivI v p q H, ⟨_, [], [], 1, rfl, (same_new hp).trans (same_new hq), by rw [upd_ne npq, upd_same]; rfl, upd_same, ⟨by omega, by omega, by decide, by decide, fun d => ?_, fun d => ?_, by omega⟩, rfl⟩, ?_⟩
    · simp; omega
    · simp; omega
    rintro m σ H' ⟨lo, hi, step, rfl, hs, h1, h2, D, rfl⟩
    have s1 := D.s1
    have s2 := D.s2
    fail "rd"
    refine ⟨mul_small (by omega), ?_⟩
    fail "rd"
    refine iteD (fun g1 => ?_) (fun g1 => ?_)
    · refine ⟨_, fun _ _ h => h, ?_⟩
      fail "rd"
      refine ⟨by omega, ?_⟩
      fail "rd"
      have e1 : H' p ≠ none := by rw [h1]; simp
      refine iteE (fun g2 => ?_) (fun g2 => ?_)
      · fail "rd"
        refine ⟨.inl ⟨rfl, _, SqL.of h1⟩, ?_⟩
        fail "rd"
        refine ⟨_, _, _, rfl, rfl, h1, small1000 (by have := D.l1; have := step_le hb s1 g1; simp; omega), ?_⟩
        fail "rd"
        refine ⟨mul_small (by omega), ?_⟩
        fail "rd"
        refine iteN (fun g3 => ?_) (fun g3 => ?_)
        · fail "rd"
          refine ⟨.inl ⟨rfl, _, SqL.of ((upd_ne npq.symm).trans h2)⟩, ?_⟩
          fail "rd"
          refine ⟨⟨by omega, by omega⟩, ?_⟩
          refine ⟨_, _, _, rfl, rfl, (upd_ne npq.symm).trans h2, small1000 (by have := D.l2; have := step_le hb s1 g1; simp; omega), ?_⟩
          fail "rd"
          refine ⟨(1001 - (step + 1)).toNat, by have := step_le hb s1 g1; omega, lo ++ [step], hi ++ [v.fdiv step], _, rfl, same_mut (same_mut hs hp) hq0, ?_, ?_, (D.yes g1 hb h0 g2).1 g3, rfl⟩
          · rw [upd_ne npq, upd_same, List.map_append]; rfl
          · rw [upd_same, List.map_append]; rfl
        · fail "rd"
          refine ⟨(1001 - (step + 1)).toNat, by have := step_le hb s1 g1; omega, lo ++ [step], hi, _, rfl, same_mut hs hp, ?_, ?_, (D.yes g1 hb h0 g2).2 g3, rfl⟩
          · rw [upd_same, List.map_append]; rfl
          · rw [upd_ne npq.symm]; exact h2
      · fail "rd"
        exact ⟨(1001 - (step + 1)).toNat, by have := step_le hb s1 g1; omega, lo, hi, _, rfl, hs, h1, h2, D.no g1 hb g2, rfl⟩
    · fail "rd"
      refine ⟨_, _, rfl, SqL.of h2, fun r hr' => ?_⟩
      have nr1 : p ≠ r := ne_of_none h1 hr'
      refine ⟨p, r, _, _, rfl, rfl, by rw [upd_ne nr1]; exact h1, upd_same, ?_, fun t ht => ?_⟩
      · have := D.l1
        have := D.l2
        have e : (1000000 : Nat) ≤ sizeLine := by decide
        simp
        omega
      · refine k _ t (lo ++ hi.reverse) (same_mut (same_mut hs (hs.free hr')) (hs.free ?_)) (hs.free ?_) ?_ ?_ (D.fin (by omega))
        · have := ht; rw [upd_ne (fun e => by rw [e, upd_same] at this; cases this)] at this; exact this
        · have := ht; rw [upd_ne (fun e => by rw [e, upd_same] at this; cases this)] at this; exact this
        · rw [upd_same, List.map_append, List.map_reverse]
        · have := D.l1
          have := D.l2
          refine ⟨step - 1, by omega, D.s3, ?_⟩
          rw [List.length_append, List.length_reverse]
          omega
end
end G41
set_option Elab.async false
set_option linter.all false
set_option maxRecDepth 100000
set_option maxHeartbeats 4000000
namespace G41
open PySem PySem.Spec PyProof.Rows L2
abbrev s_unit_table : Stmt := top 28
abbrev nm_unit_table : List Str := ["size", "row", "column"]
abbrev ps_unit_table : List Str := ["size"]
theorem sc_unit_table : FnScope nm_unit_table ps_unit_table (defScope s_unit_table) := ⟨rfl, rfl, rfl, by decide +kernel, rfl, by decide +kernel, by decide +kernel⟩
abbrev s_turned : Stmt := top 30
abbrev nm_turned : List Str := ["rows", "column", "row"]
abbrev ps_turned : List Str := ["rows"]
theorem sc_turned : FnScope nm_turned ps_turned (defScope s_turned) := ⟨rfl, rfl, rfl, by decide +kernel, rfl, by decide +kernel, by decide +kernel⟩
abbrev s_joined_tables : Stmt := top 31
abbrev nm_joined_tables : List Str := ["one", "other", "row", "columns", "found", "column", "left", "right"]
abbrev ps_joined_tables : List Str := ["one", "other"]
theorem sc_joined_tables : FnScope nm_joined_tables ps_joined_tables (defScope s_joined_tables) := ⟨rfl, rfl, rfl, by decide +kernel, rfl, by decide +kernel, by decide +kernel⟩
structure spUnit (K : PySem.W.Frag) (vs : List V) (H : Hp) (Q : VK) (E : XK) : Prop where
  ex : vs = [.int 2] ∧ ∀ H' p r s a b c d, Same H H' → SqT K H' p [.ref r, .ref s] → SqT K H' r [.int a, .int b] → SqT K H' s [.int c, .int d] → Q (.ref p) H'
local macro_rules | `(tactic| fail "rd1") => `(tactic| first
  | refine ⟨_, rfl, ?_⟩
  | refine ⟨_, _, rfl, rfl, ?_⟩
  | refine ⟨rfl, ?_⟩
  | refine ⟨_, _, rfl, ?_⟩
  | refine ⟨_, _, _, rfl, ?_⟩
  | fail)
local macro_rules | `(tactic| fail "rd") => `(tactic| repeat (fail "rd1"))
local macro_rules | `(tactic| fail "nn") => `(tactic| first
  | with_reducible assumption
  | (apply lkn; fail "ne"; fail "nn")
  | (apply none_same; with_reducible assumption; fail "sm"))
local macro_rules | `(tactic| fail "ne") => `(tactic| first
  | with_reducible assumption
  | exact (old_ne (by with_reducible assumption) (by with_reducible assumption)).1
  | exact (old_ne (by with_reducible assumption) (by with_reducible assumption)).2
  | (apply ne_new1; with_reducible assumption; fail "lk")
  | (apply ne_new2; with_reducible assumption; fail "lk"))
local macro_rules | `(tactic| fail "lk") => `(tactic| first
  | with_reducible assumption
  | exact upd_same
  | (apply lkn; fail "ne"; fail "lk")
  | (apply same_upd; with_reducible assumption; fail "lk"))
local macro_rules | `(tactic| fail "sm") => `(tactic| first
  | with_reducible assumption
  | exact Same.refl _
  | (apply same_mut; fail "sm"; fail "nn")
  | (apply trans_same; with_reducible assumption; fail "sm"))
local macro_rules | `(tactic| fail "sl") => `(tactic| first
  | with_reducible assumption
  | (apply lst_same; with_reducible assumption; fail "sm")
  | (apply SqL.of; fail "lk")
  | (apply lst_new; fail "nn"; fail "sl")
  | (apply lst_updn; fail "ne"; fail "sl")
  | (apply lst_trans; with_reducible assumption; fail "sl"))
local macro_rules | `(tactic| fail "st") => `(tactic| first
  | with_reducible assumption
  | (apply tup_same; with_reducible assumption; fail "sm")
  | (apply SqT.of; fail "lk")
  | (apply tup_new; fail "nn"; fail "st")
  | (apply tup_upd; fail "lk"; fail "st")
  | (apply tup_trans; with_reducible assumption; fail "st")
  | (apply tup_updI; fail "lk"; fail "st"))
local macro_rules | `(tactic| fail "nw") => `(tactic| (repeat (refine nwI (fun _ _ => ?_))); refine fun _ => ?_)
local macro_rules | `(tactic| fail "ln") => `(tactic| first
  | exact lenLt (Nat.le_of_ble_eq_true rfl)
  | exact Nat.le_of_ble_eq_true rfl)
local macro_rules | `(tactic| fail "un") => `(tactic| first
  | apply un_lcR
  | (refine un_lc2 2 ?_)
  | (apply un_lcL; fail "sl")
  | (apply un_lcT; fail "st")
  | (apply un_lcZ; fail "sl")
  | (apply un_lcZT; fail "st")
  | (apply un_lcZM; fail "sl"))
local macro_rules | `(tactic| fail "uf") => `(tactic| first
  | apply un_forR
  | (apply un_forL; fail "sl")
  | (apply un_forT; fail "st")
  | (apply un_forZ; fail "sl")
  | (apply un_forZT; fail "st")
  | (apply un_forZM; fail "sl")
  | (apply un_forE; fail "st"))
local macro_rules | `(tactic| fail "ns") => `(tactic| try simp only [wipe, L2.start, List.set_cons_zero, List.set_cons_succ, List.map_cons, List.map_nil, List.length_cons, List.length_nil, List.replicate_succ, List.replicate_zero, List.cons_append, List.nil_append, Nat.reduceAdd, Nat.reduceSub])
local macro_rules | `(tactic| fail "da") => `(tactic| first
  | exact DpAll.nil
  | (apply DpAll.cons; (first | exact Dp.int _ | (apply Dp.tup; fail "st"; fail "da") | (apply Dp.lst; fail "sl"; fail "da") | exact Dp.bl _ | exact Dp.str _); fail "da"))
local macro_rules | `(tactic| fail "dp") => `(tactic| first
  | exact Dp.int _
  | (apply Dp.tup; fail "st"; fail "da")
  | (apply Dp.lst; fail "sl"; fail "da"))
local macro_rules | `(tactic| fail "so") => `(tactic| first
  | (apply sx_upd; fail "so")
  | (apply sx_mut; fail "so"; fail "nn")
  | (apply sx_of; fail "sm"))
local macro_rules | `(tactic| fail "lg") => `(tactic| (refine PyProof.Rows.int_text_len_1921 (lg_small ?_); omega))
local macro_rules | `(tactic| fail "sx1") => `(tactic| (conv => whnf); first
  | (refine fun _ => ?_; fail "nw"; first | fail "un" | skip)
  | (refine fun _ => ?_)
  | (refine wipe_1 (by decide) ?_; fail "ns")
  | (refine wipe_2 (by decide) (by decide) ?_; fail "ns")
  | (refine ⟨_, rfl, ?_⟩)
  | (refine ⟨rfl, ?_⟩)
  | (refine ⟨_, _, rfl, rfl, ?_⟩)
  | (refine ⟨_, _, rfl, ?_⟩)
  | (refine ⟨_, _, _, rfl, ?_⟩)
  | apply un_forR
  | (apply un_forL; fail "sl")
  | (apply un_forT; fail "st")
  | (apply un_forZ; fail "sl")
  | (apply un_forZT; fail "st")
  | (apply un_forZM; fail "sl")
  | (apply un_forE; fail "st")
  | apply un_inR
  | (apply tyI; fail "sl")
  | (apply dpI; fail "dp"; fail "dp"; rfl; rfl)
  | (apply gtI; fail "st"; rfl)
  | apply isi_ii
  | apply isi_ib
  | (apply isi_tt; fail "st")
  | refine divN1 ?_
  | (apply nx_range; exact Nat.le_of_ble_eq_true rfl)
  | (apply nx_list; fail "sl"; rfl)
  | (apply nx_tup; fail "st"; rfl)
  | (apply nx_zip; fail "sl"; fail "sl"; rfl; rfl)
  | (apply nx_zipT; fail "st"; fail "st"; rfl; rfl)
  | (apply nx_zipM; fail "sl"; fail "st"; rfl; rfl)
  | (apply nx_enumT; fail "st"; rfl)
  | (apply st_range; fail "ln")
  | (apply st_list; fail "sl"; fail "ln")
  | (apply st_tup; fail "st"; fail "ln")
  | (apply st_zip; fail "sl"; fail "sl"; fail "ln")
  | (apply st_zipT; fail "st"; fail "st"; fail "ln")
  | (apply st_zipM; fail "sl"; fail "st"; rfl; rfl)
  | (apply st_enumT; fail "st"; rfl)
  | (apply mulR; with_reducible assumption)
  | (apply mulL; with_reducible assumption)
  | (apply accI; fail "lk"; fail "ln")
  | (apply apdI; fail "lk"; fail "ln")
  | (apply ixLI; fail "sl"; rfl)
  | (apply ixTI; fail "st"; rfl)
  | (apply setI; fail "lk"; rfl)
  | (apply slLI; fail "sl")
  | (apply sum2I; fail "sl")
  | (apply rep2I; fail "lk"; exact Nat.le_of_ble_eq_true rfl)
  | (refine And.intro (lg_small ?_) ?_; omega)
  | (apply joinI3; fail "sl"; fail "lg"; fail "lg"; fail "lg"; decide)
  | (apply enI; fail "st")
  | (apply enL; fail "sl")
  | (apply ppL; fail "sl")
  | (apply ppT; fail "st")
  | (apply pqL; fail "sl")
  | (apply pqT; fail "st")
  | (apply pzL; fail "sl"; fail "sl")
  | (apply pzT; fail "st"; fail "st")
  | (apply pzM; fail "sl"; fail "st")
  | (refine Or.inl ⟨_, rfl, ?_⟩)
  | (refine Or.inr ⟨_, rfl, ?_⟩)
  | (apply pxL; fail "sl")
  | (apply pxT; fail "st")
  | (refine iteTI rfl ?_)
  | (refine iteFI Bool.false_ne_true ?_)
  | (refine iteTI ?_ ?_; (simp [*]; done))
  | (refine iteFI ?_ ?_; (simp [*]; done))
  | (refine And.intro ?_ ?_; first | decide | (simp only [List.length_append, List.length_cons, List.length_nil]; decide)))
local macro_rules | `(tactic| fail "sx") => `(tactic| repeat (fail "sx1"))
local macro_rules | `(tactic| fail "tx1") => `(tactic| (conv => whnf); first
  | (refine fun _ => ?_; fail "nw")
  | (refine fun _ => ?_)
  | (refine wipe_1 (by decide) ?_; fail "ns")
  | (refine wipe_2 (by decide) (by decide) ?_; fail "ns")
  | (refine ⟨_, rfl, ?_⟩)
  | (refine ⟨rfl, ?_⟩)
  | (refine ⟨_, _, rfl, rfl, ?_⟩)
  | (refine ⟨_, _, rfl, ?_⟩)
  | (refine ⟨_, _, _, rfl, ?_⟩)
  | apply un_forR
  | (apply un_forL; fail "sl")
  | (apply un_forT; fail "st")
  | (apply un_forZ; fail "sl")
  | (apply un_forZT; fail "st")
  | (apply un_forZM; fail "sl")
  | (apply un_forE; fail "st")
  | apply un_inR
  | (apply tyI; fail "sl")
  | (apply dpI; fail "dp"; fail "dp"; rfl; rfl)
  | (apply gtI; fail "st"; rfl)
  | apply isi_ii
  | apply isi_ib
  | (apply isi_tt; fail "st")
  | refine divN1 ?_
  | (apply nx_range; exact Nat.le_of_ble_eq_true rfl)
  | (apply nx_list; fail "sl"; rfl)
  | (apply nx_tup; fail "st"; rfl)
  | (apply nx_zip; fail "sl"; fail "sl"; rfl; rfl)
  | (apply nx_zipT; fail "st"; fail "st"; rfl; rfl)
  | (apply nx_zipM; fail "sl"; fail "st"; rfl; rfl)
  | (apply nx_enumT; fail "st"; rfl)
  | (apply st_range; fail "ln")
  | (apply st_list; fail "sl"; fail "ln")
  | (apply st_tup; fail "st"; fail "ln")
  | (apply st_zip; fail "sl"; fail "sl"; fail "ln")
  | (apply st_zipT; fail "st"; fail "st"; fail "ln")
  | (apply st_zipM; fail "sl"; fail "st"; rfl; rfl)
  | (apply st_enumT; fail "st"; rfl)
  | (apply mulR; with_reducible assumption)
  | (apply mulL; with_reducible assumption)
  | (apply accI; fail "lk"; fail "ln")
  | (apply apdI; fail "lk"; fail "ln")
  | (apply ixLI; fail "sl"; rfl)
  | (apply ixTI; fail "st"; rfl)
  | (apply setI; fail "lk"; rfl)
  | (apply slLI; fail "sl")
  | (apply sum2I; fail "sl")
  | (apply rep2I; fail "lk"; exact Nat.le_of_ble_eq_true rfl)
  | (refine And.intro (lg_small ?_) ?_; omega)
  | (apply joinI3; fail "sl"; fail "lg"; fail "lg"; fail "lg"; decide)
  | (apply enI; fail "st")
  | (apply enL; fail "sl")
  | (apply ppL; fail "sl")
  | (apply ppT; fail "st")
  | (apply pqL; fail "sl")
  | (apply pqT; fail "st")
  | (apply pzL; fail "sl"; fail "sl")
  | (apply pzT; fail "st"; fail "st")
  | (apply pzM; fail "sl"; fail "st")
  | (refine Or.inl ⟨_, rfl, ?_⟩)
  | (refine Or.inr ⟨_, rfl, ?_⟩)
  | (apply pxL; fail "sl")
  | (apply pxT; fail "st")
  | (refine iteTI rfl ?_)
  | (refine iteFI Bool.false_ne_true ?_)
  | (refine iteTI ?_ ?_; (simp [*]; done))
  | (refine iteFI ?_ ?_; (simp [*]; done))
  | (refine And.intro ?_ ?_; first | decide | (simp only [List.length_append, List.length_cons, List.length_nil]; decide)))
local macro_rules | `(tactic| fail "tx") => `(tactic| repeat (fail "tx1"))
local macro_rules | `(tactic| fail "om") => `(tactic| first
  | omega
  | (dsimp only; omega)
  | (split <;> omega)
  | (dsimp only; split <;> omega))
local macro_rules | `(tactic| fail "bx1") => `(tactic| first
  | (refine iteD (fun _ => ?_) (fun _ => ?_))
  | (refine iteN (fun _ => ?_) (fun _ => ?_))
  | (refine iteE (fun _ => ?_) (fun _ => ?_))
  | (refine iteTI rfl ?_)
  | (refine iteFI Bool.false_ne_true ?_)
  | (refine ⟨_, rfl, ?_⟩)
  | (refine ⟨_, _, rfl, rfl, ?_⟩)
  | (refine ⟨rfl, ?_⟩)
  | (refine ⟨_, _, rfl, ?_⟩)
  | (apply mulR; with_reducible assumption)
  | (apply mulL; with_reducible assumption)
  | (apply mulL; refine ⟨?_, ?_⟩ <;> fail "om")
  | (apply powI; fail "om"))
local macro_rules | `(tactic| fail "bx") => `(tactic| repeat' (fail "bx1"))

section
variable {P : Program} {w : World} {K : PySem.W.Frag} {mg : Str → Option Value} {base : Heap} {f : Addr} {fd : FuncData}
theorem ok_unit_table (T : Tx K mg) (F : FnP K "unit_table" s_unit_table f fd) : FnOk P w K mg base CX0 1 f fd ps_unit_table (spUnit K) := by
  refine F.ok sc_unit_table (fun vs H Q E h => ?_) (fun cdv A outer s H vs Q E hr h => ?_)
  · obtain ⟨rfl, _⟩ := h
    rfl
  · obtain ⟨rfl, k⟩ := h
    refine ⟨_, PSs.nox (pss_one (ps_ret (pe_callTy (k_tuple (K := K) rfl) (by rfl) T.b_tuple (by decide +kernel) (pa_cons (pe_lc (own := [("row", 1)]) rfl sc_unit_table.nd (pi_range1 (by rfl) T.b_range (pa_cons (pv 0) pa_nil)) (blkOk_by (own := [("row", 1)]) (by kernel_rfl)) (fun _ _ _ _ _ => (pg_name (i := 1) sc_unit_table.nd rfl (by first | exact Or.inl rfl | exact Or.inr rfl))) (fun _ _ _ _ _ => pts_nil) (fun _ _ _ _ _ => (pe_callTy (k_tuple (K := K) rfl) (by rfl) T.b_tuple (by decide +kernel) (pa_cons (pe_lc (own := [("column", 2)]) rfl sc_unit_table.nd (pi_range1 (by rfl) T.b_range (pa_cons (pv 0) pa_nil)) (blkOk_by (own := [("column", 2)]) (by kernel_rfl)) (fun _ _ _ _ _ => (pg_name (i := 2) sc_unit_table.nd rfl (by first | exact Or.inl rfl | exact Or.inr rfl))) (fun _ _ _ _ _ => pts_nil) (fun _ _ _ _ _ => (pe_callTy call_int1 (by rfl) T.b_int (by decide +kernel) (pa_cons (pe_cmpR op_eq (pv 2) (pv 1) (nomark _)) pa_nil)))) pa_nil)))) pa_nil)))), ?_⟩
    fail "sx"
    apply k
    fail "sm"
    fail "st"
    fail "st"
    fail "st"
structure spTurned (K : PySem.W.Frag) (vs : List V) (H : Hp) (Q : VK) (E : XK) : Prop where
  ex : ∃ p r s a b c d, vs = [.ref p] ∧ SqT K H p [.ref r, .ref s] ∧ SqT K H r [.int a, .int b] ∧ SqT K H s [.int c, .int d] ∧
  ∀ H' p r s, Same H H' → SqT K H' p [.ref r, .ref s] → SqT K H' r [.int a, .int c] → SqT K H' s [.int b, .int d] → Q (.ref p) H'
theorem ok_turned (T : Tx K mg) (F : FnP K "turned" s_turned f fd) : FnOk P w K mg base CX0 1 f fd ps_turned (spTurned K) := by
  refine F.ok sc_turned (fun vs H Q E h => ?_) (fun cdv A outer s H vs Q E hr h => ?_)
  · obtain ⟨p, r, s, a, b, c, d, rfl, _⟩ := h
    rfl
  · obtain ⟨p, r, s, a, b, c, d, rfl, hp, hr', hs, k⟩ := h
    refine ⟨_, PSs.nox (pss_one (ps_ret (pe_callTy (k_tuple (K := K) rfl) (by rfl) T.b_tuple (by decide +kernel) (pa_cons (pe_lc (own := [("column", 1)]) rfl sc_turned.nd (pi_range1 (by rfl) T.b_range (pa_cons (pe_callB (k_len (K := K) rfl) (by rfl) T.b_len (by decide +kernel) (pa_cons (pv 0) pa_nil)) pa_nil)) (blkOk_by (own := [("column", 1)]) (by kernel_rfl)) (fun _ _ _ _ _ => (pg_name (i := 1) sc_turned.nd rfl (by first | exact Or.inl rfl | exact Or.inr rfl))) (fun _ _ _ _ _ => pts_nil) (fun _ _ _ _ _ => (pe_callTy (k_tuple (K := K) rfl) (by rfl) T.b_tuple (by decide +kernel) (pa_cons (pe_lc (own := [("row", 2)]) rfl sc_turned.nd (k_pt (K := K) rfl (pv 0)) (blkOk_by (own := [("row", 2)]) (by kernel_rfl)) (fun _ _ _ _ _ => (pg_name (i := 2) sc_turned.nd rfl (by first | exact Or.inl rfl | exact Or.inr rfl))) (fun _ _ _ _ _ => pts_nil) (fun _ _ _ _ _ => (pe_ix (k_ixt (K := K) rfl) (pv 2) (pv 1) (fun _ _ => rfl)))) pa_nil)))) pa_nil)))), ?_⟩
    fail "sx"
    apply k
    fail "sm"
    fail "st"
    fail "st"
    fail "st"
structure spJoined (K : PySem.W.Frag) (vs : List V) (H : Hp) (Q : VK) (E : XK) : Prop where
  ex : ∃ p r s a b c d p' r' s' a' b' c' d', vs = [.ref p, .ref p'] ∧ SqT K H p [.ref r, .ref s] ∧ SqT K H r [.int a, .int b] ∧ SqT K H s [.int c, .int d] ∧
  SqT K H p' [.ref r', .ref s'] ∧ SqT K H r' [.int a', .int b'] ∧ SqT K H s' [.int c', .int d'] ∧ Sm a' ∧ Sm b' ∧ Sm c' ∧ Sm d' ∧
  ∀ H' p r s a b c d, Same H H' → SqT K H' p [.ref r, .ref s] → SqT K H' r [.int a, .int b] → SqT K H' s [.int c, .int d] → Q (.ref p) H'
theorem turnedI {H : Hp} {Q : VK} {E : XK} {p r s : Addr} {a b c d : Int} (h1 : SqT K H p [.ref r, .ref s]) (h2 : SqT K H r [.int a, .int b]) (h3 : SqT K H s [.int c, .int d])
    (k : ∀ H' p r s, Same H H' → SqT K H' p [.ref r, .ref s] → SqT K H' r [.int a, .int c] → SqT K H' s [.int b, .int d] → Q (.ref p) H') : spTurned K [.ref p] H Q E := ⟨⟨p, r, s, a, b, c, d, rfl, h1, h2, h3, k⟩⟩
theorem ok_joined_tables (T : Tx K mg) (C_turned : Cal P w K mg base 1 "turned" ps_turned (spTurned K)) (F : FnP K "joined_tables" s_joined_tables f fd) : FnOk P w K mg base CX0 2 f fd ps_joined_tables (spJoined K) := by
  refine F.ok sc_joined_tables (fun vs H Q E h => ?_) (fun cdv A outer s H vs Q E hr h => ?_)
  · obtain ⟨p, r, s, a, b, c, d, p', r', s', a', b', c', d', rfl, _⟩ := h
    rfl
  · obtain ⟨p, r, s, a, b, c, d, p', r', s', a', b', c', d', rfl, hp, hr', hs, hp2, hr2, hs2, ma, mb, mc, md, k⟩ := h
    refine ⟨_, PSs.nox (pss_cons (ps_par (i := 3) (j := 4) rfl sc_joined_tables.nd rfl rfl (by decide) rfl rfl (pa_cons (pe_cal C_turned hr (pa_cons (pv 1) pa_nil)) (pa_cons (pe_lst pa_nil) pa_nil)) (by rfl))
    (pss_cons (ps_for PassesOwn.never rfl (k_pt (K := K) rfl (pv 0)) (pg_name (i := 2) sc_joined_tables.nd rfl (by first | exact Or.inl rfl | exact Or.inr rfl))
    (pss_one (ps_expr (pe_bm PySem.F.plainAttrs_list PySem.F.slot_list_append PySem.F.type_list_append mt_append (pv 4) (pa_cons (pe_callTy (k_tuple (K := K) rfl) (by rfl) T.b_tuple (by decide +kernel) (pa_cons (pe_lc (own := [("column", 5)]) rfl sc_joined_tables.nd (k_pt (K := K) rfl (pv 3)) (blkOk_by (own := [("column", 5)]) (by kernel_rfl)) (fun _ _ _ _ _ => (pg_name (i := 5) sc_joined_tables.nd rfl (by first | exact Or.inl rfl | exact Or.inr rfl))) (fun _ _ _ _ _ => pts_nil) (fun _ _ _ _ _ => (pe_callB (k_sum (K := K) rfl rfl) (by rfl) T.b_sum (by decide +kernel) (pa_cons (pe_lc (own := [("left", 6), ("right", 7)]) rfl sc_joined_tables.nd (k_zip (K := K) rfl (by rfl) T.b_zip (pa_cons (pv 2) (pa_cons (pv 5) pa_nil))) (blkOk_by (own := [("left", 6), ("right", 7)]) (by kernel_rfl)) (fun _ _ _ _ _ => (k_tup (K := K) (n := 2) rfl (by rfl) (pgs_cons (pg_name (i := 6) sc_joined_tables.nd rfl (by first | exact Or.inl rfl | exact Or.inr rfl)) (pgs_cons (pg_name (i := 7) sc_joined_tables.nd rfl (by first | exact Or.inl rfl | exact Or.inr rfl)) pgs_nil)))) (fun _ _ _ _ _ => pts_nil) (fun _ _ _ _ _ => (pe_op op_mul (pv 6) (pv 7)))) pa_nil)))) pa_nil)) pa_nil)))))
    (pss_one (ps_ret (pe_callTy (k_tuple (K := K) rfl) (by rfl) T.b_tuple (by decide +kernel) (pa_cons (pv 4) pa_nil)))))), ?_⟩
    fail "sx"
    apply turnedI
    fail "st"
    fail "st"
    fail "st"
    fail "tx"
    refine lc_two IsI (by fail "nn") ?_ ?_ ?_ ?_
    · intro H5 Qc s5 kq
      fail "sx"
      apply kq
      fail "sm"
      exact ⟨_, rfl⟩
    · intro H5 Qc s5 kq
      fail "sx"
      apply kq
      fail "sm"
      exact ⟨_, rfl⟩
    · intro H5 s5
      exact ⟨_, by fail "st", Nat.le_of_ble_eq_true rfl⟩
    · rintro H5 _ _ s5 hd5 ⟨v0, rfl⟩ ⟨v1, rfl⟩
      fail "tx"
      refine lc_two IsI (by fail "nn") ?_ ?_ ?_ ?_
      · intro H6 Qc s6 kq
        fail "sx"
        apply kq
        fail "sm"
        exact ⟨_, rfl⟩
      · intro H6 Qc s6 kq
        fail "sx"
        apply kq
        fail "sm"
        exact ⟨_, rfl⟩
      · intro H6 s6
        exact ⟨_, by fail "st", Nat.le_of_ble_eq_true rfl⟩
      · rintro H6 _ _ s6 hd6 ⟨v2, rfl⟩ ⟨v3, rfl⟩
        fail "tx"
        apply k
        fail "sm"
        fail "st"
        fail "st"
        fail "st"
end
end G41
set_option Elab.async false
set_option linter.all false
set_option maxRecDepth 100000
set_option maxHeartbeats 4000000
namespace G41
open PySem PySem.Spec PyProof.Rows L2
abbrev s_lessened : Stmt := top 33
abbrev nm_lessened : List Str := ["row", "lead", "step", "last", "own", "other"]
abbrev ps_lessened : List Str := ["row", "lead", "step", "last"]
theorem sc_lessened : FnScope nm_lessened ps_lessened (defScope s_lessened) := ⟨rfl, rfl, rfl, by decide +kernel, rfl, by decide +kernel, by decide +kernel⟩
abbrev s_fraction : Stmt := top 34
abbrev nm_fraction : List Str := ["top", "bottom", "common"]
abbrev ps_fraction : List Str := ["top", "bottom"]
theorem sc_fraction : FnScope nm_fraction ps_fraction (defScope s_fraction) := ⟨rfl, rfl, rfl, by decide +kernel, rfl, by decide +kernel, by decide +kernel⟩
abbrev s_exchanged : Stmt := top 38
abbrev nm_exchanged : List Str := ["rows", "one", "other", "order", "row", "column"]
abbrev ps_exchanged : List Str := ["rows", "one", "other"]
theorem sc_exchanged : FnScope nm_exchanged ps_exchanged (defScope s_exchanged) := ⟨rfl, rfl, rfl, by decide +kernel, rfl, by decide +kernel, by decide +kernel⟩
abbrev s_with_lead : Stmt := top 37
abbrev nm_with_lead : List Str := ["rows", "size", "index", "row", "column"]
abbrev ps_with_lead : List Str := ["rows"]
theorem sc_with_lead : FnScope nm_with_lead ps_with_lead (defScope s_with_lead) := ⟨rfl, rfl, rfl, by decide +kernel, rfl, by decide +kernel, by decide +kernel⟩
abbrev s_behind : Stmt := top 36
abbrev nm_behind : List Str := ["row", "lead", "many", "found", "own", "other", "top"]
abbrev ps_behind : List Str := ["row", "lead"]
theorem sc_behind : FnScope nm_behind ps_behind (defScope s_behind) := ⟨rfl, rfl, rfl, by decide +kernel, rfl, by decide +kernel, by decide +kernel⟩
abbrev s_pairs_of : Stmt := top 44
abbrev nm_pairs_of : List Str := ["size", "row", "column"]
abbrev ps_pairs_of : List Str := ["size"]
theorem sc_pairs_of : FnScope nm_pairs_of ps_pairs_of (defScope s_pairs_of) := ⟨rfl, rfl, rfl, by decide +kernel, rfl, by decide +kernel, by decide +kernel⟩
abbrev s_kind_for : Stmt := top 51
abbrev nm_kind_for : List Str := ["signature", "size", "plus", "minus"]
abbrev ps_kind_for : List Str := ["signature", "size"]
theorem sc_kind_for : FnScope nm_kind_for ps_kind_for (defScope s_kind_for) := ⟨rfl, rfl, rfl, by decide +kernel, rfl, by decide +kernel, by decide +kernel⟩
abbrev s_is_integer : Stmt := top 12
abbrev nm_is_integer : List Str := ["value"]
abbrev ps_is_integer : List Str := ["value"]
theorem sc_is_integer : FnScope nm_is_integer ps_is_integer (defScope s_is_integer) := ⟨rfl, rfl, rfl, by decide +kernel, rfl, by decide +kernel, by decide +kernel⟩
abbrev s_is_between : Stmt := top 13
abbrev nm_is_between : List Str := ["value", "low", "high"]
abbrev ps_is_between : List Str := ["value", "low", "high"]
theorem sc_is_between : FnScope nm_is_between ps_is_between (defScope s_is_between) := ⟨rfl, rfl, rfl, by decide +kernel, rfl, by decide +kernel, by decide +kernel⟩
local macro_rules | `(tactic| fail "rd1") => `(tactic| first
  | refine ⟨_, rfl, ?_⟩
  | refine ⟨_, _, rfl, rfl, ?_⟩
  | refine ⟨rfl, ?_⟩
  | refine ⟨_, _, rfl, ?_⟩
  | refine ⟨_, _, _, rfl, ?_⟩
  | fail)
local macro_rules | `(tactic| fail "rd") => `(tactic| repeat (fail "rd1"))
local macro_rules | `(tactic| fail "nn") => `(tactic| first
  | with_reducible assumption
  | (apply lkn; fail "ne"; fail "nn")
  | (apply none_same; with_reducible assumption; fail "sm"))
local macro_rules | `(tactic| fail "ne") => `(tactic| first
  | with_reducible assumption
  | exact (old_ne (by with_reducible assumption) (by with_reducible assumption)).1
  | exact (old_ne (by with_reducible assumption) (by with_reducible assumption)).2
  | (apply ne_new1; with_reducible assumption; fail "lk")
  | (apply ne_new2; with_reducible assumption; fail "lk"))
local macro_rules | `(tactic| fail "lk") => `(tactic| first
  | with_reducible assumption
  | exact upd_same
  | (apply lkn; fail "ne"; fail "lk")
  | (apply same_upd; with_reducible assumption; fail "lk"))
local macro_rules | `(tactic| fail "sm") => `(tactic| first
  | with_reducible assumption
  | exact Same.refl _
  | (apply same_mut; fail "sm"; fail "nn")
  | (apply trans_same; with_reducible assumption; fail "sm"))
local macro_rules | `(tactic| fail "sl") => `(tactic| first
  | with_reducible assumption
  | (apply lst_same; with_reducible assumption; fail "sm")
  | (apply SqL.of; fail "lk")
  | (apply lst_new; fail "nn"; fail "sl")
  | (apply lst_updn; fail "ne"; fail "sl")
  | (apply lst_trans; with_reducible assumption; fail "sl"))
local macro_rules | `(tactic| fail "st") => `(tactic| first
  | with_reducible assumption
  | (apply tup_same; with_reducible assumption; fail "sm")
  | (apply SqT.of; fail "lk")
  | (apply tup_new; fail "nn"; fail "st")
  | (apply tup_upd; fail "lk"; fail "st")
  | (apply tup_trans; with_reducible assumption; fail "st")
  | (apply tup_updI; fail "lk"; fail "st"))
local macro_rules | `(tactic| fail "nw") => `(tactic| (repeat (refine nwI (fun _ _ => ?_))); refine fun _ => ?_)
local macro_rules | `(tactic| fail "ln") => `(tactic| first
  | exact lenLt (Nat.le_of_ble_eq_true rfl)
  | exact Nat.le_of_ble_eq_true rfl)
local macro_rules | `(tactic| fail "un") => `(tactic| first
  | apply un_lcR
  | (refine un_lc2 2 ?_)
  | (apply un_lcL; fail "sl")
  | (apply un_lcT; fail "st")
  | (apply un_lcZ; fail "sl")
  | (apply un_lcZT; fail "st")
  | (apply un_lcZM; fail "sl"))
local macro_rules | `(tactic| fail "uf") => `(tactic| first
  | apply un_forR
  | (apply un_forL; fail "sl")
  | (apply un_forT; fail "st")
  | (apply un_forZ; fail "sl")
  | (apply un_forZT; fail "st")
  | (apply un_forZM; fail "sl")
  | (apply un_forE; fail "st"))
local macro_rules | `(tactic| fail "ns") => `(tactic| try simp only [wipe, L2.start, List.set_cons_zero, List.set_cons_succ, List.map_cons, List.map_nil, List.length_cons, List.length_nil, List.replicate_succ, List.replicate_zero, List.cons_append, List.nil_append, Nat.reduceAdd, Nat.reduceSub])
local macro_rules | `(tactic| fail "da") => `(tactic| first
  | exact DpAll.nil
  | (apply DpAll.cons; (first | exact Dp.int _ | (apply Dp.tup; fail "st"; fail "da") | (apply Dp.lst; fail "sl"; fail "da") | exact Dp.bl _ | exact Dp.str _); fail "da"))
local macro_rules | `(tactic| fail "dp") => `(tactic| first
  | exact Dp.int _
  | (apply Dp.tup; fail "st"; fail "da")
  | (apply Dp.lst; fail "sl"; fail "da"))
local macro_rules | `(tactic| fail "so") => `(tactic| first
  | (apply sx_upd; fail "so")
  | (apply sx_mut; fail "so"; fail "nn")
  | (apply sx_of; fail "sm"))
local macro_rules | `(tactic| fail "lg") => `(tactic| (refine PyProof.Rows.int_text_len_1921 (lg_small ?_); omega))
local macro_rules | `(tactic| fail "sx1") => `(tactic| (conv => whnf); first
  | (refine fun _ => ?_; fail "nw"; first | fail "un" | skip)
  | (refine fun _ => ?_)
  | (refine wipe_1 (by decide) ?_; fail "ns")
  | (refine wipe_2 (by decide) (by decide) ?_; fail "ns")
  | (refine ⟨_, rfl, ?_⟩)
  | (refine ⟨rfl, ?_⟩)
  | (refine ⟨_, _, rfl, rfl, ?_⟩)
  | (refine ⟨_, _, rfl, ?_⟩)
  | (refine ⟨_, _, _, rfl, ?_⟩)
  | apply un_forR
  | (apply un_forL; fail "sl")
  | (apply un_forT; fail "st")
  | (apply un_forZ; fail "sl")
  | (apply un_forZT; fail "st")
  | (apply un_forZM; fail "sl")
  | (apply un_forE; fail "st")
  | apply un_inR
  | (apply tyI; fail "sl")
  | (apply dpI; fail "dp"; fail "dp"; rfl; rfl)
  | (apply gtI; fail "st"; rfl)
  | apply isi_ii
  | apply isi_ib
  | (apply isi_tt; fail "st")
  | refine divN1 ?_
  | (apply nx_range; exact Nat.le_of_ble_eq_true rfl)
  | (apply nx_list; fail "sl"; rfl)
  | (apply nx_tup; fail "st"; rfl)
  | (apply nx_zip; fail "sl"; fail "sl"; rfl; rfl)
  | (apply nx_zipT; fail "st"; fail "st"; rfl; rfl)
  | (apply nx_zipM; fail "sl"; fail "st"; rfl; rfl)
  | (apply nx_enumT; fail "st"; rfl)
  | (apply st_range; fail "ln")
  | (apply st_list; fail "sl"; fail "ln")
  | (apply st_tup; fail "st"; fail "ln")
  | (apply st_zip; fail "sl"; fail "sl"; fail "ln")
  | (apply st_zipT; fail "st"; fail "st"; fail "ln")
  | (apply st_zipM; fail "sl"; fail "st"; rfl; rfl)
  | (apply st_enumT; fail "st"; rfl)
  | (apply mulR; with_reducible assumption)
  | (apply mulL; with_reducible assumption)
  | (apply accI; fail "lk"; fail "ln")
  | (apply apdI; fail "lk"; fail "ln")
  | (apply ixLI; fail "sl"; rfl)
  | (apply ixTI; fail "st"; rfl)
  | (apply setI; fail "lk"; rfl)
  | (apply slLI; fail "sl")
  | (apply sum2I; fail "sl")
  | (apply rep2I; fail "lk"; exact Nat.le_of_ble_eq_true rfl)
  | (refine And.intro (lg_small ?_) ?_; omega)
  | (apply joinI3; fail "sl"; fail "lg"; fail "lg"; fail "lg"; decide)
  | (apply enI; fail "st")
  | (apply enL; fail "sl")
  | (apply ppL; fail "sl")
  | (apply ppT; fail "st")
  | (apply pqL; fail "sl")
  | (apply pqT; fail "st")
  | (apply pzL; fail "sl"; fail "sl")
  | (apply pzT; fail "st"; fail "st")
  | (apply pzM; fail "sl"; fail "st")
  | (refine Or.inl ⟨_, rfl, ?_⟩)
  | (refine Or.inr ⟨_, rfl, ?_⟩)
  | (apply pxL; fail "sl")
  | (apply pxT; fail "st")
  | (refine iteTI rfl ?_)
  | (refine iteFI Bool.false_ne_true ?_)
  | (refine iteTI ?_ ?_; (simp [*]; done))
  | (refine iteFI ?_ ?_; (simp [*]; done))
  | (refine And.intro ?_ ?_; first | decide | (simp only [List.length_append, List.length_cons, List.length_nil]; decide)))
local macro_rules | `(tactic| fail "sx") => `(tactic| repeat (fail "sx1"))
local macro_rules | `(tactic| fail "tx1") => `(tactic| (conv => whnf); first
  | (refine fun _ => ?_; fail "nw")
  | (refine fun _ => ?_)
  | (refine wipe_1 (by decide) ?_; fail "ns")
  | (refine wipe_2 (by decide) (by decide) ?_; fail "ns")
  | (refine ⟨_, rfl, ?_⟩)
  | (refine ⟨rfl, ?_⟩)
  | (refine ⟨_, _, rfl, rfl, ?_⟩)
  | (refine ⟨_, _, rfl, ?_⟩)
  | (refine ⟨_, _, _, rfl, ?_⟩)
  | apply un_forR
  | (apply un_forL; fail "sl")
  | (apply un_forT; fail "st")
  | (apply un_forZ; fail "sl")
  | (apply un_forZT; fail "st")
  | (apply un_forZM; fail "sl")
  | (apply un_forE; fail "st")
  | apply un_inR
  | (apply tyI; fail "sl")
  | (apply dpI; fail "dp"; fail "dp"; rfl; rfl)
  | (apply gtI; fail "st"; rfl)
  | apply isi_ii
  | apply isi_ib
  | (apply isi_tt; fail "st")
  | refine divN1 ?_
  | (apply nx_range; exact Nat.le_of_ble_eq_true rfl)
  | (apply nx_list; fail "sl"; rfl)
  | (apply nx_tup; fail "st"; rfl)
  | (apply nx_zip; fail "sl"; fail "sl"; rfl; rfl)
  | (apply nx_zipT; fail "st"; fail "st"; rfl; rfl)
  | (apply nx_zipM; fail "sl"; fail "st"; rfl; rfl)
  | (apply nx_enumT; fail "st"; rfl)
  | (apply st_range; fail "ln")
  | (apply st_list; fail "sl"; fail "ln")
  | (apply st_tup; fail "st"; fail "ln")
  | (apply st_zip; fail "sl"; fail "sl"; fail "ln")
  | (apply st_zipT; fail "st"; fail "st"; fail "ln")
  | (apply st_zipM; fail "sl"; fail "st"; rfl; rfl)
  | (apply st_enumT; fail "st"; rfl)
  | (apply mulR; with_reducible assumption)
  | (apply mulL; with_reducible assumption)
  | (apply accI; fail "lk"; fail "ln")
  | (apply apdI; fail "lk"; fail "ln")
  | (apply ixLI; fail "sl"; rfl)
  | (apply ixTI; fail "st"; rfl)
  | (apply setI; fail "lk"; rfl)
  | (apply slLI; fail "sl")
  | (apply sum2I; fail "sl")
  | (apply rep2I; fail "lk"; exact Nat.le_of_ble_eq_true rfl)
  | (refine And.intro (lg_small ?_) ?_; omega)
  | (apply joinI3; fail "sl"; fail "lg"; fail "lg"; fail "lg"; decide)
  | (apply enI; fail "st")
  | (apply enL; fail "sl")
  | (apply ppL; fail "sl")
  | (apply ppT; fail "st")
  | (apply pqL; fail "sl")
  | (apply pqT; fail "st")
  | (apply pzL; fail "sl"; fail "sl")
  | (apply pzT; fail "st"; fail "st")
  | (apply pzM; fail "sl"; fail "st")
  | (refine Or.inl ⟨_, rfl, ?_⟩)
  | (refine Or.inr ⟨_, rfl, ?_⟩)
  | (apply pxL; fail "sl")
  | (apply pxT; fail "st")
  | (refine iteTI rfl ?_)
  | (refine iteFI Bool.false_ne_true ?_)
  | (refine iteTI ?_ ?_; (simp [*]; done))
  | (refine iteFI ?_ ?_; (simp [*]; done))
  | (refine And.intro ?_ ?_; first | decide | (simp only [List.length_append, List.length_cons, List.length_nil]; decide)))
local macro_rules | `(tactic| fail "tx") => `(tactic| repeat (fail "tx1"))
local macro_rules | `(tactic| fail "om") => `(tactic| first
  | omega
  | (dsimp only; omega)
  | (split <;> omega)
  | (dsimp only; split <;> omega))
local macro_rules | `(tactic| fail "bx1") => `(tactic| first
  | (refine iteD (fun _ => ?_) (fun _ => ?_))
  | (refine iteN (fun _ => ?_) (fun _ => ?_))
  | (refine iteE (fun _ => ?_) (fun _ => ?_))
  | (refine iteTI rfl ?_)
  | (refine iteFI Bool.false_ne_true ?_)
  | (refine ⟨_, rfl, ?_⟩)
  | (refine ⟨_, _, rfl, rfl, ?_⟩)
  | (refine ⟨rfl, ?_⟩)
  | (refine ⟨_, _, rfl, ?_⟩)
  | (apply mulR; with_reducible assumption)
  | (apply mulL; with_reducible assumption)
  | (apply mulL; refine ⟨?_, ?_⟩ <;> fail "om")
  | (apply powI; fail "om"))
local macro_rules | `(tactic| fail "bx") => `(tactic| repeat' (fail "bx1"))

section
variable {P : Program} {w : World} {K : PySem.W.Frag} {mg : Str → Option Value} {base : Heap} {f : Addr} {fd : FuncData}
theorem ok_is_integer (T : Tx K mg) (F : FnP K "is_integer" s_is_integer f fd) : FnOk P w K mg base CX0 1 f fd ps_is_integer (fun vs H Q _ => ∃ v : Int, vs = [.int v] ∧ Q (.bl true) H) := by
  refine F.ok sc_is_integer (fun vs H Q E h => ?_) (fun cdv A outer s H vs Q E hr h => ?_)
  · obtain ⟨v, rfl, _⟩ := h
    rfl
  · obtain ⟨v, rfl, k⟩ := h
    refine ⟨_, PSs.nox (pss_one (ps_ret (pe_and (pe_callB (k_isi (K := K) rfl) (by rfl) T.b_isinstance (by decide +kernel) (pa_cons (pv 0) (pa_cons (pe_bltn (by rfl) T.b_int (by decide +kernel) (show RelV (.ty "int") (.type "int") from rfl)) pa_nil))) (pe_one (pe_not (pe_callB (k_isi (K := K) rfl) (by rfl) T.b_isinstance (by decide +kernel) (pa_cons (pv 0) (pa_cons (pe_bltn (by rfl) T.b_bool (by decide +kernel) (show RelV (.ty "bool") (.type "bool") from rfl)) pa_nil)))))))), ?_⟩
    fail "sx"
    exact k
structure spLess (K : PySem.W.Frag) (vs : List V) (H : Hp) (Q : VK) (E : XK) : Prop where
  ex : ∃ p q a b c d, vs = [.ref p, .ref q, .int 0, .int 1] ∧ SqL K H p [.int a, .int b] ∧ SqL K H q [.int c, .int d] ∧ Sm a ∧ Sm b ∧ Sm c ∧ Sm d ∧
    ∀ H' p a b, Same H H' → SqL K H' p [.int a, .int b] → H p = none → Q (.ref p) H'
theorem ok_lessened (T : Tx K mg) (F : FnP K "lessened" s_lessened f fd) : FnOk P w K mg base CX0 1 f fd ps_lessened (spLess K) := by
  refine F.ok sc_lessened (fun vs H Q E h => ?_) (fun cdv A outer s H vs Q E hr h => ?_)
  · obtain ⟨p, q, a, b, c, d, rfl, _⟩ := h
    rfl
  · obtain ⟨p, q, a, b, c, d, rfl, hp, hq, ma, mb, mc, md, k⟩ := h
    refine ⟨_, PSs.nox (pss_one (ps_ret (pe_lc (own := [("own", 4), ("other", 5)]) rfl sc_lessened.nd (k_zip (K := K) rfl (by rfl) T.b_zip (pa_cons (pv 0) (pa_cons (pv 1) pa_nil))) (blkOk_by (own := [("own", 4), ("other", 5)]) (by kernel_rfl)) (fun _ _ _ _ _ => (k_tup (K := K) (n := 2) rfl (by rfl) (pgs_cons (pg_name (i := 4) sc_lessened.nd rfl (by first | exact Or.inl rfl | exact Or.inr rfl)) (pgs_cons (pg_name (i := 5) sc_lessened.nd rfl (by first | exact Or.inl rfl | exact Or.inr rfl)) pgs_nil)))) (fun _ _ _ _ _ => pts_nil) (fun _ _ _ _ _ => (pe_op op_fdivN (pe_op op_sub (pe_op op_mul (pv 4) (pe_ix (k_ixl (K := K) rfl) (pv 1) (pv 2) (fun _ _ => rfl))) (pe_op op_mul (pe_ix (k_ixl (K := K) rfl) (pv 0) (pv 2) (fun _ _ => rfl)) (pv 5))) (pv 3)))))), ?_⟩
    fail "sx"
    apply k
    fail "sm"
    fail "sl"
    fail "nn"
/-- a quotient in lowest terms -/
def spFrac (K : PySem.W.Frag) : Sp := fun vs H Q _ => ∃ t b : Int, vs = [.int t, .int b] ∧ b ≠ 0 ∧ b.natAbs < 1000000000 ∧ ∀ H' q n d, Same H H' → SqT K H' q [.int n, .int d] → 0 < d → n * b = d * t → n.natAbs ≤ t.natAbs → d.natAbs ≤ b.natAbs → Q (.ref q) H'
theorem ok_fraction (T : Tx K mg) (C_common_divisor : Cal P w K mg base 1 "common_divisor" ps_common_divisor spGcd) (F : FnP K "fraction" s_fraction f fd) : FnOk P w K mg base CX0 2 f fd ps_fraction (spFrac K) := by
  refine F.ok sc_fraction (fun vs H Q E h => ?_) (fun cdv A outer s H vs Q E hr h => ?_)
  · obtain ⟨t, b, rfl, _⟩ := h
    rfl
  · obtain ⟨t, b, rfl, b0, bb, k⟩ := h
    refine ⟨_, PSs.nox (pss_cons (ps_set (i := 2) sc_fraction.nd rfl (Or.inl rfl) (pe_cal C_common_divisor hr (pa_cons (pv 0) (pa_cons (pv 1) pa_nil))))
    (pss_cons (ps_set (i := 2) sc_fraction.nd rfl (Or.inl rfl) (pe_ifExp (pt_cmpR op_gt (pv 1) pe_int (nomark _)) (pv 2) (pe_un un_neg (pv 2))))
    (pss_one (ps_ret (pe_tup (pa_cons (pe_op op_fdivN (pv 0) (pv 2)) (pa_cons (pe_op op_fdivN (pv 1) (pv 2)) pa_nil))))))), ?_⟩
    fail "rd"
    intro H1 s1
    fail "rd"
    have g0 : 0 < (Int.gcd t b : Int) := by
      have := Int.gcd_pos_of_ne_zero_right t b0
      omega
    have g1 : ((Int.gcd t b : Nat) : Int) ∣ t := Int.gcd_dvd_left ..
    have g2 : ((Int.gcd t b : Nat) : Int) ∣ b := Int.gcd_dvd_right ..
    generalize hg : ((Int.gcd t b : Nat) : Int) = g at g0 g1 g2
    obtain ⟨t', rfl⟩ := g1
    obtain ⟨b', rfl⟩ := g2
    have gb : g.natAbs ≤ (g * b').natAbs := by
      rw [Int.natAbs_mul]
      have : b' ≠ 0 := fun e => b0 (by rw [e, Int.mul_zero])
      exact Nat.le_mul_of_pos_right _ (by omega)
    have gt : (t' : Int).natAbs ≤ (g * t').natAbs := by
      rw [Int.natAbs_mul]
      exact Nat.le_mul_of_pos_left _ (by omega)
    have gbb : (b' : Int).natAbs ≤ (g * b').natAbs := by
      rw [Int.natAbs_mul]
      exact Nat.le_mul_of_pos_left _ (by omega)
    refine iteD (fun h1 => ?_) (fun h1 => ?_)
    · fail "rd"
      refine ⟨⟨by omega, by omega⟩, ?_⟩
      fail "rd"
      refine ⟨⟨by omega, by omega⟩, ?_⟩
      have e1 : (g * t').fdiv g = t' := Int.mul_fdiv_cancel_left _ (by omega)
      have e2 : (g * b').fdiv g = b' := Int.mul_fdiv_cancel_left _ (by omega)
      have p1 : 0 < b' := by
        rcases Int.lt_or_le 0 b' with z | z
        · exact z
        · have := Int.mul_nonneg (by omega : 0 ≤ g) (by omega : 0 ≤ -b')
          rw [Int.mul_neg] at this
          omega
      refine ⟨by show 2 ≤ sizeLine; decide, ?_⟩
      intro q hq
      show Q (.ref q) (upd H1 q (.tup [.int ((g * t').fdiv g), .int ((g * b').fdiv g)]))
      rw [e1, e2]
      exact k _ _ _ _ (s1.trans (same_new hq)) (SqT.of upd_same) p1 (by rw [← Int.mul_assoc, Int.mul_comm t' g, Int.mul_comm]) gt gbb
    · fail "rd"
      refine ⟨⟨by omega, by omega⟩, ?_⟩
      fail "rd"
      refine ⟨⟨by omega, by omega⟩, ?_⟩
      have e1 : (g * t').fdiv (-g) = -t' := by
        rw [show g * t' = (-g) * (-t') by rw [Int.neg_mul_neg]]
        exact Int.mul_fdiv_cancel_left _ (by omega)
      have e2 : (g * b').fdiv (-g) = -b' := by
        rw [show g * b' = (-g) * (-b') by rw [Int.neg_mul_neg]]
        exact Int.mul_fdiv_cancel_left _ (by omega)
      have p1 : 0 < -b' := by
        rcases Int.lt_or_le b' 0 with z | z
        · omega
        · exact absurd (Int.mul_nonneg (by omega : 0 ≤ g) z) (by omega)
      refine ⟨by show 2 ≤ sizeLine; decide, ?_⟩
      intro q hq
      show Q (.ref q) (upd H1 q (.tup [.int ((g * t').fdiv (-g)), .int ((g * b').fdiv (-g))]))
      rw [e1, e2]
      exact k _ _ _ _ (s1.trans (same_new hq)) (SqT.of upd_same) p1 (by rw [Int.neg_mul, Int.neg_mul, ← Int.mul_assoc, Int.mul_comm t' g, Int.mul_comm]) (by omega) (by omega)
structure spExch (K : PySem.W.Frag) (vs : List V) (H : Hp) (Q : VK) (E : XK) : Prop where
  ex : ∃ p, vs = [.ref p, .int 0, .int 0] ∧ ((∃ r s x y z u, SqL K H p [.ref r, .ref s] ∧ SqL K H r [x, y] ∧ SqL K H s [z, u] ∧
      ∀ H' p r s, Same H H' → SqL K H' p [.ref r, .ref s] → SqL K H' r [x, y] → SqL K H' s [z, u] → H p = none → H r = none → H s = none → Q (.ref p) H') ∨
    (∃ r x, SqL K H p [.ref r] ∧ SqL K H r [x] ∧ ∀ H' p r, Same H H' → SqL K H' p [.ref r] → SqL K H' r [x] → H p = none → H r = none → Q (.ref p) H'))
theorem ok_exchanged (T : Tx K mg) (F : FnP K "exchanged" s_exchanged f fd) : FnOk P w K mg base CX0 1 f fd ps_exchanged (spExch K) := by
  refine F.ok sc_exchanged (fun vs H Q E h => ?_) (fun cdv A outer s H vs Q E hr h => ?_)
  · obtain ⟨p, rfl, _⟩ := h
    rfl
  · obtain ⟨p, rfl, h⟩ := h
    refine ⟨_, PSs.nox (pss_cons (ps_set (i := 3) sc_exchanged.nd rfl (by first | exact Or.inl rfl | exact Or.inr rfl) (pe_listRg (by rfl) (by rfl) T.b_list (prg_1 (by rfl) T.b_range (pe_callB (k_len (K := K) rfl) (by rfl) T.b_len (by decide +kernel) (pa_cons (pv 0) pa_nil)))))
    (pss_cons (ps_asg (pe_tup (pa_cons (pe_ix (k_ixl (K := K) rfl) (pv 3) (pv 2) (fun _ _ => rfl)) (pa_cons (pe_ix (k_ixl (K := K) rfl) (pv 3) (pv 1) (fun _ _ => rfl)) pa_nil))) (k_tup (K := K) (n := 2) rfl (by rfl) (pgs_cons (pg_sub (pv 3) (pv 1) set_list) (pgs_cons (pg_sub (pv 3) (pv 2) set_list) pgs_nil))))
    (pss_one (ps_ret (pe_lc (own := [("row", 4)]) rfl sc_exchanged.nd (k_pl (K := K) rfl (pv 3)) (blkOk_by (own := [("row", 4)]) (by kernel_rfl)) (fun _ _ _ _ _ => (pg_name (i := 4) sc_exchanged.nd rfl (by first | exact Or.inl rfl | exact Or.inr rfl))) (fun _ _ _ _ _ => pts_nil) (fun _ _ _ _ _ => (pe_lc (own := [("column", 5)]) rfl sc_exchanged.nd (k_pl (K := K) rfl (pv 3)) (blkOk_by (own := [("column", 5)]) (by kernel_rfl)) (fun _ _ _ _ _ => (pg_name (i := 5) sc_exchanged.nd rfl (by first | exact Or.inl rfl | exact Or.inr rfl))) (fun _ _ _ _ _ => pts_nil) (fun _ _ _ _ _ => (pe_ix (k_ixl (K := K) rfl) (pe_ix (k_ixl (K := K) rfl) (pv 0) (pv 4) (fun _ _ => rfl)) (pv 5) (fun _ _ => rfl)))))))))), ?_⟩
    rcases h with ⟨r, s', x, y, z, u, hp, hr', hs, k⟩ | ⟨r, x, hp, hr', k⟩
    · fail "sx"
      refine ⟨⟨by decide, by decide, by simp only [List.length_cons, List.length_nil]; decide, by simp only [List.length_cons, List.length_nil]; decide, by simp only [List.length_cons, List.length_nil]; decide⟩, fun q hq => ?_⟩
      have e : rgV 0 (([V.ref r, V.ref s'].length : Nat) : Int) = [V.int 0, V.int 1] := rfl
      rw [e]
      fail "sx"
      apply k
      fail "sm"
      fail "sl"
      fail "sl"
      fail "sl"
      fail "nn"
      fail "nn"
      fail "nn"
    · fail "sx"
      refine ⟨⟨by decide, by decide, by simp only [List.length_cons, List.length_nil]; decide, by simp only [List.length_cons, List.length_nil]; decide, by simp only [List.length_cons, List.length_nil]; decide⟩, fun q hq => ?_⟩
      have e : rgV 0 (([V.ref r].length : Nat) : Int) = [V.int 0] := rfl
      rw [e]
      fail "sx"
      apply k
      fail "sm"
      fail "sl"
      fail "sl"
      fail "nn"
      fail "nn"
theorem exchI2 {H : Hp} {Q : VK} {E : XK} {p r s : Addr} {x y z u : V} (h1 : SqL K H p [.ref r, .ref s]) (h2 : SqL K H r [x, y]) (h3 : SqL K H s [z, u])
    (k : ∀ H' p r s, Same H H' → SqL K H' p [.ref r, .ref s] → SqL K H' r [x, y] → SqL K H' s [z, u] → H p = none → H r = none → H s = none → Q (.ref p) H') : spExch K [.ref p, .int 0, .int 0] H Q E := ⟨⟨p, rfl, .inl ⟨r, s, x, y, z, u, h1, h2, h3, k⟩⟩⟩
theorem exchI1 {H : Hp} {Q : VK} {E : XK} {p r : Addr} {x : V} (h1 : SqL K H p [.ref r]) (h2 : SqL K H r [x])
    (k : ∀ H' p r, Same H H' → SqL K H' p [.ref r] → SqL K H' r [x] → H p = none → H r = none → Q (.ref p) H') : spExch K [.ref p, .int 0, .int 0] H Q E := ⟨⟨p, rfl, .inr ⟨r, x, h1, h2, k⟩⟩⟩
structure spLead (K : PySem.W.Frag) (vs : List V) (H : Hp) (Q : VK) (E : XK) : Prop where
  ex : ∃ p, vs = [.ref p] ∧ ((∃ r s f y z u n d, n ≠ 0 ∧ SqL K H p [.ref r, .ref s] ∧ SqL K H r [.ref f, y] ∧ SqL K H s [z, u] ∧ SqT K H f [.int n, .int d] ∧
      ∀ H' p r s, Same H H' → SqL K H' p [.ref r, .ref s] → SqL K H' r [.ref f, y] → SqL K H' s [z, u] → H p = none → H r = none → H s = none → Q (.ref p) H') ∨
    (∃ r f n d, n ≠ 0 ∧ SqL K H p [.ref r] ∧ SqL K H r [.ref f] ∧ SqT K H f [.int n, .int d] ∧ ∀ H' p r, Same H H' → SqL K H' p [.ref r] → SqL K H' r [.ref f] → H p = none → H r = none → Q (.ref p) H'))
theorem ok_with_lead (T : Tx K mg) (C_exchanged : Cal P w K mg base 1 "exchanged" ps_exchanged (spExch K)) (F : FnP K "with_lead" s_with_lead f fd) : FnOk P w K mg base CX0 2 f fd ps_with_lead (spLead K) := by
  refine F.ok sc_with_lead (fun vs H Q E h => ?_) (fun cdv A outer s H vs Q E hr h => ?_)
  · obtain ⟨p, rfl, _⟩ := h
    rfl
  · obtain ⟨p, rfl, h⟩ := h
    refine ⟨_, PSs.nox (pss_cons (ps_set (i := 1) sc_with_lead.nd rfl (Or.inl rfl) (pe_callB (k_len (K := K) rfl) (by rfl) T.b_len (by decide +kernel) (pa_cons (pv 0) pa_nil)))
    (pss_cons (ps_for PassesOwn.never rfl (pi_range1 (by rfl) T.b_range (pa_cons (pv 1) pa_nil)) (pg_name (i := 2) sc_with_lead.nd rfl (by first | exact Or.inl rfl | exact Or.inr rfl))
    (pss_one (ps_if (pt_cmpR op_ne (pe_ix (k_ixt (K := K) rfl) (pe_ix (k_ixl (K := K) rfl) (pe_ix (k_ixl (K := K) rfl) (pv 0) (pv 2) (fun _ _ => rfl)) (pv 2) (fun _ _ => rfl)) pe_int (fun _ _ => rfl)) pe_int (nomark _))
    (pss_one (ps_ret (pe_cal C_exchanged hr (pa_cons (pv 0) (pa_cons pe_int (pa_cons (pv 2) pa_nil))))))
    pss_nil)))
    (pss_cons ps_never
    (pss_one (ps_ret (pv 0)))))), ?_⟩
    rcases h with ⟨r, s', f, y, z, u, n, d, n0, hp, hr', hs, hf, k⟩ | ⟨r, f, n, d, n0, hp, hr', hf, k⟩
    · fail "sx"
      refine iteN (fun _ => ?_) (fun h => absurd h n0)
      fail "sx"
      exact Or.inl ⟨_, _, _, _, _, _, hp, hr', hs, k⟩
    · fail "sx"
      refine iteN (fun _ => ?_) (fun h => absurd h n0)
      fail "sx"
      exact Or.inr ⟨_, _, hp, hr', k⟩
structure spBehind (K : PySem.W.Frag) (vs : List V) (H : Hp) (Q : VK) (E : XK) : Prop where
  ex : ∃ p q x0 x1 y0 y1 a b c, vs = [.ref p, .ref q] ∧ SqL K H p [.ref x0, .ref x1] ∧ SqL K H q [.ref y0, .ref y1] ∧ SqT K H x0 [.int b, .int 1] ∧ SqT K H x1 [.int c, .int 1] ∧ SqT K H y0 [.int a, .int 1] ∧ SqT K H y1 [.int b, .int 1] ∧
    a ≠ 0 ∧ a.natAbs ≤ 200000 ∧ b.natAbs ≤ 200000 ∧ c.natAbs ≤ 200000 ∧ a * c ≠ b * b ∧ ∀ H' p f n d, Same H H' → SqL K H' p [.ref f] → SqT K H' f [.int n, .int d] → n ≠ 0 → H p = none → Q (.ref p) H'
theorem ok_behind (T : Tx K mg) (C_fraction : Cal P w K mg base 2 "fraction" ps_fraction (spFrac K)) (F : FnP K "behind" s_behind f fd) : FnOk P w K mg base CX0 3 f fd ps_behind (spBehind K) := by
  refine F.ok sc_behind (fun vs H Q E h => ?_) (fun cdv A outer s H vs Q E hr h => ?_)
  · obtain ⟨p, q, x0, x1, y0, y1, a, b, c, rfl, _⟩ := h
    rfl
  · obtain ⟨p, q, x0, x1, y0, y1, a, b, c, rfl, hp, hq, hx0, hx1, hy0, hy1, a0, aa, bb, cc, hd, k⟩ := h
    refine ⟨_, PSs.nox (pss_cons (ps_if (pt_cmpR op_eq (pe_ix (k_ixt (K := K) rfl) (pe_ix (k_ixl (K := K) rfl) (pv 1) pe_int (fun _ _ => rfl)) pe_int (fun _ _ => rfl)) pe_int (nomark _))
    (pss_one (ps_ret (pe_slice (k_slL (K := K) rfl) (pv 0) (po_some pe_int) po_none)))
    pss_nil)
    (pss_cons (ps_set (i := 2) sc_behind.nd rfl (Or.inl rfl) (pe_cal C_fraction hr (pa_cons (pe_op op_mul (pe_ix (k_ixt (K := K) rfl) (pe_ix (k_ixl (K := K) rfl) (pv 0) pe_int (fun _ _ => rfl)) pe_int (fun _ _ => rfl)) (pe_ix (k_ixt (K := K) rfl) (pe_ix (k_ixl (K := K) rfl) (pv 1) pe_int (fun _ _ => rfl)) pe_int (fun _ _ => rfl))) (pa_cons (pe_op op_mul (pe_ix (k_ixt (K := K) rfl) (pe_ix (k_ixl (K := K) rfl) (pv 0) pe_int (fun _ _ => rfl)) pe_int (fun _ _ => rfl)) (pe_ix (k_ixt (K := K) rfl) (pe_ix (k_ixl (K := K) rfl) (pv 1) pe_int (fun _ _ => rfl)) pe_int (fun _ _ => rfl))) pa_nil))))
    (pss_cons (ps_set (i := 3) sc_behind.nd rfl (Or.inl rfl) (pe_lst pa_nil))
    (pss_cons (ps_for PassesOwn.never rfl (k_zip (K := K) rfl (by rfl) T.b_zip (pa_cons (pe_slice (k_slL (K := K) rfl) (pv 0) (po_some pe_int) po_none) (pa_cons (pe_slice (k_slL (K := K) rfl) (pv 1) (po_some pe_int) po_none) pa_nil))) (k_tup (K := K) (n := 2) rfl (by rfl) (pgs_cons (pg_name (i := 4) sc_behind.nd rfl (by first | exact Or.inl rfl | exact Or.inr rfl)) (pgs_cons (pg_name (i := 5) sc_behind.nd rfl (by first | exact Or.inl rfl | exact Or.inr rfl)) pgs_nil)))
    (pss_cons (ps_set (i := 6) sc_behind.nd rfl (Or.inl rfl) (pe_op op_sub (pe_op op_mul (pe_op op_mul (pe_ix (k_ixt (K := K) rfl) (pv 4) pe_int (fun _ _ => rfl)) (pe_ix (k_ixt (K := K) rfl) (pv 2) pe_int (fun _ _ => rfl))) (pe_ix (k_ixt (K := K) rfl) (pv 5) pe_int (fun _ _ => rfl))) (pe_op op_mul (pe_op op_mul (pe_ix (k_ixt (K := K) rfl) (pv 2) pe_int (fun _ _ => rfl)) (pe_ix (k_ixt (K := K) rfl) (pv 5) pe_int (fun _ _ => rfl))) (pe_ix (k_ixt (K := K) rfl) (pv 4) pe_int (fun _ _ => rfl)))))
    (pss_one (ps_expr (pe_bm PySem.F.plainAttrs_list PySem.F.slot_list_append PySem.F.type_list_append mt_append (pv 3) (pa_cons (pe_cal C_fraction hr (pa_cons (pv 6) (pa_cons (pe_op op_mul (pe_op op_mul (pe_ix (k_ixt (K := K) rfl) (pv 4) pe_int (fun _ _ => rfl)) (pe_ix (k_ixt (K := K) rfl) (pv 2) pe_int (fun _ _ => rfl))) (pe_ix (k_ixt (K := K) rfl) (pv 5) pe_int (fun _ _ => rfl))) pa_nil))) pa_nil))))))
    (pss_one (ps_ret (pv 3))))))), ?_⟩
    have ma : Sm a := ⟨by omega, by omega⟩
    have mb : Sm b := ⟨by omega, by omega⟩
    have mc : Sm c := ⟨by omega, by omega⟩
    fail "sx"
    refine iteE (fun h => absurd h a0) (fun _ => ?_)
    fail "sx"
    refine ⟨by omega, by omega, fun H1 q1 n d s1 hq1 d0 he hn hd' => ?_⟩
    have mn : Sm n := ⟨by omega, by omega⟩
    have md : Sm d := ⟨by omega, by omega⟩
    have m1 : Sm 1 := ⟨by decide, by decide⟩
    fail "sx"
    refine ⟨by omega, by omega, fun H2 q2 n2 d2 s2 hq2 d02 he2 hn2 hd2 => ?_⟩
    fail "sx"
    apply k
    fail "sm"
    fail "sl"
    fail "st"
    · rintro rfl
      have e0 : d2 * (c * d * 1 - n * b * 1) = 0 := by rw [← he2]; omega
      have e1 : c * d * 1 - n * b * 1 = 0 := by
        rcases Int.mul_eq_zero.mp e0 with z | z
        · omega
        · exact z
      have e2 : d * (a * c - b * b) = 0 := by grind
      rcases Int.mul_eq_zero.mp e2 with z | z
      · omega
      · omega
    fail "nn"
end
end G41
set_option Elab.async false
set_option linter.all false
set_option maxRecDepth 100000
set_option maxHeartbeats 4000000
namespace G41
open PySem PySem.Spec PyProof.Rows L2
abbrev s_diagonal : Stmt := top 35
abbrev nm_diagonal : List Str := ["rows", "left", "found", "lead", "row", "value"]
abbrev ps_diagonal : List Str := ["rows"]
theorem sc_diagonal : FnScope nm_diagonal ps_diagonal (defScope s_diagonal) := ⟨rfl, rfl, rfl, by decide +kernel, rfl, by decide +kernel, by decide +kernel⟩
abbrev s_determinant : Stmt := top 32
abbrev nm_determinant : List Str := ["rows", "step", "left", "sign", "last", "spots", "lead", "index", "row"]
abbrev ps_determinant : List Str := ["rows"]
theorem sc_determinant : FnScope nm_determinant ps_determinant (defScope s_determinant) := ⟨rfl, rfl, rfl, by decide +kernel, rfl, by decide +kernel, by decide +kernel⟩
abbrev s_signature_for : Stmt := top 50
abbrev nm_signature_for : List Str := ["rows", "weights", "one"]
abbrev ps_signature_for : List Str := ["rows"]
theorem sc_signature_for : FnScope nm_signature_for ps_signature_for (defScope s_signature_for) := ⟨rfl, rfl, rfl, by decide +kernel, rfl, by decide +kernel, by decide +kernel⟩
local macro_rules | `(tactic| fail "rd1") => `(tactic| first
  | refine ⟨_, rfl, ?_⟩
  | refine ⟨_, _, rfl, rfl, ?_⟩
  | refine ⟨rfl, ?_⟩
  | refine ⟨_, _, rfl, ?_⟩
  | refine ⟨_, _, _, rfl, ?_⟩
  | fail)
local macro_rules | `(tactic| fail "rd") => `(tactic| repeat (fail "rd1"))
local macro_rules | `(tactic| fail "nn") => `(tactic| first
  | with_reducible assumption
  | (apply lkn; fail "ne"; fail "nn")
  | (apply none_same; with_reducible assumption; fail "sm"))
local macro_rules | `(tactic| fail "ne") => `(tactic| first
  | with_reducible assumption
  | exact (old_ne (by with_reducible assumption) (by with_reducible assumption)).1
  | exact (old_ne (by with_reducible assumption) (by with_reducible assumption)).2
  | (apply ne_new1; with_reducible assumption; fail "lk")
  | (apply ne_new2; with_reducible assumption; fail "lk"))
local macro_rules | `(tactic| fail "lk") => `(tactic| first
  | with_reducible assumption
  | exact upd_same
  | (apply lkn; fail "ne"; fail "lk")
  | (apply same_upd; with_reducible assumption; fail "lk"))
local macro_rules | `(tactic| fail "sm") => `(tactic| first
  | with_reducible assumption
  | exact Same.refl _
  | (apply same_mut; fail "sm"; fail "nn")
  | (apply trans_same; with_reducible assumption; fail "sm"))
local macro_rules | `(tactic| fail "sl") => `(tactic| first
  | with_reducible assumption
  | (apply lst_same; with_reducible assumption; fail "sm")
  | (apply SqL.of; fail "lk")
  | (apply lst_new; fail "nn"; fail "sl")
  | (apply lst_updn; fail "ne"; fail "sl")
  | (apply lst_trans; with_reducible assumption; fail "sl"))
local macro_rules | `(tactic| fail "st") => `(tactic| first
  | with_reducible assumption
  | (apply tup_same; with_reducible assumption; fail "sm")
  | (apply SqT.of; fail "lk")
  | (apply tup_new; fail "nn"; fail "st")
  | (apply tup_upd; fail "lk"; fail "st")
  | (apply tup_trans; with_reducible assumption; fail "st")
  | (apply tup_updI; fail "lk"; fail "st"))
local macro_rules | `(tactic| fail "nw") => `(tactic| (repeat (refine nwI (fun _ _ => ?_))); refine fun _ => ?_)
local macro_rules | `(tactic| fail "ln") => `(tactic| first
  | exact lenLt (Nat.le_of_ble_eq_true rfl)
  | exact Nat.le_of_ble_eq_true rfl)
local macro_rules | `(tactic| fail "un") => `(tactic| first
  | apply un_lcR
  | (refine un_lc2 2 ?_)
  | (apply un_lcL; fail "sl")
  | (apply un_lcT; fail "st")
  | (apply un_lcZ; fail "sl")
  | (apply un_lcZT; fail "st")
  | (apply un_lcZM; fail "sl"))
local macro_rules | `(tactic| fail "uf") => `(tactic| first
  | apply un_forR
  | (apply un_forL; fail "sl")
  | (apply un_forT; fail "st")
  | (apply un_forZ; fail "sl")
  | (apply un_forZT; fail "st")
  | (apply un_forZM; fail "sl")
  | (apply un_forE; fail "st"))
local macro_rules | `(tactic| fail "ns") => `(tactic| try simp only [wipe, L2.start, List.set_cons_zero, List.set_cons_succ, List.map_cons, List.map_nil, List.length_cons, List.length_nil, List.replicate_succ, List.replicate_zero, List.cons_append, List.nil_append, Nat.reduceAdd, Nat.reduceSub])
local macro_rules | `(tactic| fail "da") => `(tactic| first
  | exact DpAll.nil
  | (apply DpAll.cons; (first | exact Dp.int _ | (apply Dp.tup; fail "st"; fail "da") | (apply Dp.lst; fail "sl"; fail "da") | exact Dp.bl _ | exact Dp.str _); fail "da"))
local macro_rules | `(tactic| fail "dp") => `(tactic| first
  | exact Dp.int _
  | (apply Dp.tup; fail "st"; fail "da")
  | (apply Dp.lst; fail "sl"; fail "da"))
local macro_rules | `(tactic| fail "so") => `(tactic| first
  | (apply sx_upd; fail "so")
  | (apply sx_mut; fail "so"; fail "nn")
  | (apply sx_of; fail "sm"))
local macro_rules | `(tactic| fail "lg") => `(tactic| (refine PyProof.Rows.int_text_len_1921 (lg_small ?_); omega))
local macro_rules | `(tactic| fail "sx1") => `(tactic| (conv => whnf); first
  | (refine fun _ => ?_; fail "nw"; first | fail "un" | skip)
  | (refine fun _ => ?_)
  | (refine wipe_1 (by decide) ?_; fail "ns")
  | (refine wipe_2 (by decide) (by decide) ?_; fail "ns")
  | (refine ⟨_, rfl, ?_⟩)
  | (refine ⟨rfl, ?_⟩)
  | (refine ⟨_, _, rfl, rfl, ?_⟩)
  | (refine ⟨_, _, rfl, ?_⟩)
  | (refine ⟨_, _, _, rfl, ?_⟩)
  | apply un_forR
  | (apply un_forL; fail "sl")
  | (apply un_forT; fail "st")
  | (apply un_forZ; fail "sl")
  | (apply un_forZT; fail "st")
  | (apply un_forZM; fail "sl")
  | (apply un_forE; fail "st")
  | apply un_inR
  | (apply tyI; fail "sl")
  | (apply dpI; fail "dp"; fail "dp"; rfl; rfl)
  | (apply gtI; fail "st"; rfl)
  | apply isi_ii
  | apply isi_ib
  | (apply isi_tt; fail "st")
  | refine divN1 ?_
  | (apply nx_range; exact Nat.le_of_ble_eq_true rfl)
  | (apply nx_list; fail "sl"; rfl)
  | (apply nx_tup; fail "st"; rfl)
  | (apply nx_zip; fail "sl"; fail "sl"; rfl; rfl)
  | (apply nx_zipT; fail "st"; fail "st"; rfl; rfl)
  | (apply nx_zipM; fail "sl"; fail "st"; rfl; rfl)
  | (apply nx_enumT; fail "st"; rfl)
  | (apply st_range; fail "ln")
  | (apply st_list; fail "sl"; fail "ln")
  | (apply st_tup; fail "st"; fail "ln")
  | (apply st_zip; fail "sl"; fail "sl"; fail "ln")
  | (apply st_zipT; fail "st"; fail "st"; fail "ln")
  | (apply st_zipM; fail "sl"; fail "st"; rfl; rfl)
  | (apply st_enumT; fail "st"; rfl)
  | (apply mulR; with_reducible assumption)
  | (apply mulL; with_reducible assumption)
  | (apply accI; fail "lk"; fail "ln")
  | (apply apdI; fail "lk"; fail "ln")
  | (apply ixLI; fail "sl"; rfl)
  | (apply ixTI; fail "st"; rfl)
  | (apply setI; fail "lk"; rfl)
  | (apply slLI; fail "sl")
  | (apply sum2I; fail "sl")
  | (apply rep2I; fail "lk"; exact Nat.le_of_ble_eq_true rfl)
  | (refine And.intro (lg_small ?_) ?_; omega)
  | (apply joinI3; fail "sl"; fail "lg"; fail "lg"; fail "lg"; decide)
  | (apply enI; fail "st")
  | (apply enL; fail "sl")
  | (apply ppL; fail "sl")
  | (apply ppT; fail "st")
  | (apply pqL; fail "sl")
  | (apply pqT; fail "st")
  | (apply pzL; fail "sl"; fail "sl")
  | (apply pzT; fail "st"; fail "st")
  | (apply pzM; fail "sl"; fail "st")
  | (refine Or.inl ⟨_, rfl, ?_⟩)
  | (refine Or.inr ⟨_, rfl, ?_⟩)
  | (apply pxL; fail "sl")
  | (apply pxT; fail "st")
  | (refine iteTI rfl ?_)
  | (refine iteFI Bool.false_ne_true ?_)
  | (refine iteTI ?_ ?_; (simp [*]; done))
  | (refine iteFI ?_ ?_; (simp [*]; done))
  | (refine And.intro ?_ ?_; first | decide | (simp only [List.length_append, List.length_cons, List.length_nil]; decide)))
local macro_rules | `(tactic| fail "sx") => `(tactic| repeat (fail "sx1"))
local macro_rules | `(tactic| fail "tx1") => `(tactic| (conv => whnf); first
  | (refine fun _ => ?_; fail "nw")
  | (refine fun _ => ?_)
  | (refine wipe_1 (by decide) ?_; fail "ns")
  | (refine wipe_2 (by decide) (by decide) ?_; fail "ns")
  | (refine ⟨_, rfl, ?_⟩)
  | (refine ⟨rfl, ?_⟩)
  | (refine ⟨_, _, rfl, rfl, ?_⟩)
  | (refine ⟨_, _, rfl, ?_⟩)
  | (refine ⟨_, _, _, rfl, ?_⟩)
  | apply un_forR
  | (apply un_forL; fail "sl")
  | (apply un_forT; fail "st")
  | (apply un_forZ; fail "sl")
  | (apply un_forZT; fail "st")
  | (apply un_forZM; fail "sl")
  | (apply un_forE; fail "st")
  | apply un_inR
  | (apply tyI; fail "sl")
  | (apply dpI; fail "dp"; fail "dp"; rfl; rfl)
  | (apply gtI; fail "st"; rfl)
  | apply isi_ii
  | apply isi_ib
  | (apply isi_tt; fail "st")
  | refine divN1 ?_
  | (apply nx_range; exact Nat.le_of_ble_eq_true rfl)
  | (apply nx_list; fail "sl"; rfl)
  | (apply nx_tup; fail "st"; rfl)
  | (apply nx_zip; fail "sl"; fail "sl"; rfl; rfl)
  | (apply nx_zipT; fail "st"; fail "st"; rfl; rfl)
  | (apply nx_zipM; fail "sl"; fail "st"; rfl; rfl)
  | (apply nx_enumT; fail "st"; rfl)
  | (apply st_range; fail "ln")
  | (apply st_list; fail "sl"; fail "ln")
  | (apply st_tup; fail "st"; fail "ln")
  | (apply st_zip; fail "sl"; fail "sl"; fail "ln")
  | (apply st_zipT; fail "st"; fail "st"; fail "ln")
  | (apply st_zipM; fail "sl"; fail "st"; rfl; rfl)
  | (apply st_enumT; fail "st"; rfl)
  | (apply mulR; with_reducible assumption)
  | (apply mulL; with_reducible assumption)
  | (apply accI; fail "lk"; fail "ln")
  | (apply apdI; fail "lk"; fail "ln")
  | (apply ixLI; fail "sl"; rfl)
  | (apply ixTI; fail "st"; rfl)
  | (apply setI; fail "lk"; rfl)
  | (apply slLI; fail "sl")
  | (apply sum2I; fail "sl")
  | (apply rep2I; fail "lk"; exact Nat.le_of_ble_eq_true rfl)
  | (refine And.intro (lg_small ?_) ?_; omega)
  | (apply joinI3; fail "sl"; fail "lg"; fail "lg"; fail "lg"; decide)
  | (apply enI; fail "st")
  | (apply enL; fail "sl")
  | (apply ppL; fail "sl")
  | (apply ppT; fail "st")
  | (apply pqL; fail "sl")
  | (apply pqT; fail "st")
  | (apply pzL; fail "sl"; fail "sl")
  | (apply pzT; fail "st"; fail "st")
  | (apply pzM; fail "sl"; fail "st")
  | (refine Or.inl ⟨_, rfl, ?_⟩)
  | (refine Or.inr ⟨_, rfl, ?_⟩)
  | (apply pxL; fail "sl")
  | (apply pxT; fail "st")
  | (refine iteTI rfl ?_)
  | (refine iteFI Bool.false_ne_true ?_)
  | (refine iteTI ?_ ?_; (simp [*]; done))
  | (refine iteFI ?_ ?_; (simp [*]; done))
  | (refine And.intro ?_ ?_; first | decide | (simp only [List.length_append, List.length_cons, List.length_nil]; decide)))
local macro_rules | `(tactic| fail "tx") => `(tactic| repeat (fail "tx1"))
local macro_rules | `(tactic| fail "om") => `(tactic| first
  | omega
  | (dsimp only; omega)
  | (split <;> omega)
  | (dsimp only; split <;> omega))
local macro_rules | `(tactic| fail "bx1") => `(tactic| first
  | (refine iteD (fun _ => ?_) (fun _ => ?_))
  | (refine iteN (fun _ => ?_) (fun _ => ?_))
  | (refine iteE (fun _ => ?_) (fun _ => ?_))
  | (refine iteTI rfl ?_)
  | (refine iteFI Bool.false_ne_true ?_)
  | (refine ⟨_, rfl, ?_⟩)
  | (refine ⟨_, _, rfl, rfl, ?_⟩)
  | (refine ⟨rfl, ?_⟩)
  | (refine ⟨_, _, rfl, ?_⟩)
  | (apply mulR; with_reducible assumption)
  | (apply mulL; with_reducible assumption)
  | (apply mulL; refine ⟨?_, ?_⟩ <;> fail "om")
  | (apply powI; fail "om"))
local macro_rules | `(tactic| fail "bx") => `(tactic| repeat' (fail "bx1"))

section
variable {P : Program} {w : World} {K : PySem.W.Frag} {mg : Str → Option Value} {base : Heap} {f : Addr} {fd : FuncData}
theorem leadJ2 {H : Hp} {p r s f : Addr} {y z u : V} {n d : Int} {P : Addr → Addr → Addr → V → V → V → Int → Int → Prop} (n0 : n ≠ 0) (h1 : SqL K H p [.ref r, .ref s]) (h2 : SqL K H r [.ref f, y]) (h3 : SqL K H s [z, u]) (h4 : SqT K H f [.int n, .int d])
    (k : P r s f y z u n d) : ∃ r s f y z u n d, n ≠ 0 ∧ SqL K H p [.ref r, .ref s] ∧ SqL K H r [.ref f, y] ∧ SqL K H s [z, u] ∧ SqT K H f [.int n, .int d] ∧ P r s f y z u n d := ⟨r, s, f, y, z, u, n, d, n0, h1, h2, h3, h4, k⟩
theorem leadJ1 {H : Hp} {p r f : Addr} {n d : Int} {P : Addr → Addr → Int → Int → Prop} (n0 : n ≠ 0) (h1 : SqL K H p [.ref r]) (h2 : SqL K H r [.ref f]) (h4 : SqT K H f [.int n, .int d])
    (k : P r f n d) : ∃ r f n d, n ≠ 0 ∧ SqL K H p [.ref r] ∧ SqL K H r [.ref f] ∧ SqT K H f [.int n, .int d] ∧ P r f n d := ⟨r, f, n, d, n0, h1, h2, h4, k⟩
theorem behJ {H : Hp} {p q x0 x1 y0 y1 : Addr} {a b c : Int} {Q : VK} {E : XK} (h1 : SqL K H p [.ref x0, .ref x1]) (h2 : SqL K H q [.ref y0, .ref y1]) (h3 : SqT K H x0 [.int b, .int 1]) (h4 : SqT K H x1 [.int c, .int 1]) (h5 : SqT K H y0 [.int a, .int 1]) (h6 : SqT K H y1 [.int b, .int 1])
    (a0 : a ≠ 0) (aa : a.natAbs ≤ 200000) (bb : b.natAbs ≤ 200000) (cc : c.natAbs ≤ 200000) (hd : a * c ≠ b * b) (k : ∀ H' p f n d, Same H H' → SqL K H' p [.ref f] → SqT K H' f [.int n, .int d] → n ≠ 0 → H p = none → Q (.ref p) H') : spBehind K [.ref p, .ref q] H Q E :=
  ⟨⟨p, q, x0, x1, y0, y1, a, b, c, rfl, h1, h2, h3, h4, h5, h6, a0, aa, bb, cc, hd, k⟩⟩
structure spDiag (K : PySem.W.Frag) (vs : List V) (H : Hp) (Q : VK) (E : XK) : Prop where
  ex : ∃ p r s a b c, vs = [.ref p] ∧ SqT K H p [.ref r, .ref s] ∧ SqT K H r [.int a, .int b] ∧ SqT K H s [.int b, .int c] ∧ a ≠ 0 ∧ a.natAbs ≤ 200000 ∧ b.natAbs ≤ 200000 ∧ c.natAbs ≤ 200000 ∧ a * c ≠ b * b ∧
    ∀ H' p f g n d n2 d2, Same H H' → SqL K H' p [.ref f, .ref g] → SqT K H' f [.int n, .int d] → SqT K H' g [.int n2, .int d2] → Q (.ref p) H'
structure DA (K : PySem.W.Frag) (H : Hp) (p : Addr) (a b c : Int) (σ : L2.St) (H' : Hp) : Prop where
  ex : ∃ L F r0 r1 f0 f1 g0 g1, σ = [some (.ref p), some (.ref L), some (.ref F), none, none, none] ∧ Same H H' ∧ H' F = some (.lst []) ∧ H F = none ∧ SqL K H' L [.ref r0, .ref r1] ∧ SqL K H' r0 [.ref f0, .ref f1] ∧ SqL K H' r1 [.ref g0, .ref g1] ∧
        SqT K H' f0 [.int a, .int 1] ∧ SqT K H' f1 [.int b, .int 1] ∧ SqT K H' g0 [.int b, .int 1] ∧ SqT K H' g1 [.int c, .int 1]
structure DB (K : PySem.W.Frag) (H : Hp) (p : Addr) (σ : L2.St) (H' : Hp) : Prop where
  ex : ∃ L F f0 e0 n d n2 d2 o1 o2 o3, σ = [some (.ref p), some (.ref L), some (.ref F), o1, o2, o3] ∧ Same H H' ∧ H' F = some (.lst [.ref e0]) ∧ H F = none ∧ (∃ r0, SqL K H' L [.ref r0] ∧ SqL K H' r0 [.ref f0]) ∧ SqT K H' f0 [.int n, .int d] ∧ n ≠ 0 ∧ SqT K H' e0 [.int n2, .int d2]
structure DC (K : PySem.W.Frag) (H : Hp) (p : Addr) (σ : L2.St) (H' : Hp) : Prop where
  ex : ∃ L F e0 e1 n d n2 d2 o1 o2 o3, σ = [some (.ref p), some (.ref L), some (.ref F), o1, o2, o3] ∧ Same H H' ∧ H' F = some (.lst [.ref e0, .ref e1]) ∧ SqL K H' L [] ∧ SqT K H' e0 [.int n, .int d] ∧ SqT K H' e1 [.int n2, .int d2]
theorem daI {H H' : Hp} {p L F r0 r1 f0 f1 g0 g1 : Addr} {a b c : Int} (h1 : Same H H') (h2 : H' F = some (.lst [])) (h0 : H F = none) (h3 : SqL K H' L [.ref r0, .ref r1]) (h4 : SqL K H' r0 [.ref f0, .ref f1]) (h5 : SqL K H' r1 [.ref g0, .ref g1])
    (h6 : SqT K H' f0 [.int a, .int 1]) (h7 : SqT K H' f1 [.int b, .int 1]) (h8 : SqT K H' g0 [.int b, .int 1]) (h9 : SqT K H' g1 [.int c, .int 1]) : DA K H p a b c [some (.ref p), some (.ref L), some (.ref F), none, none, none] H' :=
  ⟨⟨L, F, r0, r1, f0, f1, g0, g1, rfl, h1, h2, h0, h3, h4, h5, h6, h7, h8, h9⟩⟩
theorem dbI {H H' : Hp} {p L F f0 e0 r0 : Addr} {n d n2 d2 : Int} {o1 o2 o3 : Option V} (h1 : Same H H') (h2 : H' F = some (.lst [.ref e0])) (h0 : H F = none) (h3 : SqL K H' L [.ref r0]) (h4 : SqL K H' r0 [.ref f0]) (h5 : SqT K H' f0 [.int n, .int d]) (h6 : n ≠ 0) (h7 : SqT K H' e0 [.int n2, .int d2]) :
    DB K H p [some (.ref p), some (.ref L), some (.ref F), o1, o2, o3] H' := ⟨⟨L, F, f0, e0, n, d, n2, d2, o1, o2, o3, rfl, h1, h2, h0, ⟨r0, h3, h4⟩, h5, h6, h7⟩⟩
theorem dcI {H H' : Hp} {p L F e0 e1 : Addr} {n d n2 d2 : Int} {o1 o2 o3 : Option V} (h1 : Same H H') (h2 : H' F = some (.lst [.ref e0, .ref e1])) (h3 : SqL K H' L []) (h5 : SqT K H' e0 [.int n, .int d]) (h7 : SqT K H' e1 [.int n2, .int d2]) :
    DC K H p [some (.ref p), some (.ref L), some (.ref F), o1, o2, o3] H' := ⟨⟨L, F, e0, e1, n, d, n2, d2, o1, o2, o3, rfl, h1, h2, h3, h5, h7⟩⟩
theorem ok_diagonal (T : Tx K mg) (C_with_lead : Cal P w K mg base 2 "with_lead" ps_with_lead (spLead K)) (C_behind : Cal P w K mg base 3 "behind" ps_behind (spBehind K)) (F : FnP K "diagonal" s_diagonal f fd) : FnOk P w K mg base CX0 4 f fd ps_diagonal (spDiag K) := by
  refine F.ok sc_diagonal (fun vs H Q E h => ?_) (fun cdv A outer s H vs Q E hr h => ?_)
  · obtain ⟨p, r, s, a, b, c, rfl, _⟩ := h
    rfl
  · obtain ⟨p, r, s, a, b, c, rfl, hp, hr', hs, a0, aa, bb, cc, hd, k⟩ := h
    refine ⟨_, PSs.nox (pss_cons (ps_par (i := 1) (j := 2) rfl sc_diagonal.nd rfl rfl (by decide) rfl rfl (pa_cons (pe_lc (own := [("row", 4)]) rfl sc_diagonal.nd (k_pt (K := K) rfl (pv 0)) (blkOk_by (own := [("row", 4)]) (by kernel_rfl)) (fun _ _ _ _ _ => (pg_name (i := 4) sc_diagonal.nd rfl (by first | exact Or.inl rfl | exact Or.inr rfl))) (fun _ _ _ _ _ => pts_nil) (fun _ _ _ _ _ => (pe_lc (own := [("value", 5)]) rfl sc_diagonal.nd (k_pt (K := K) rfl (pv 4)) (blkOk_by (own := [("value", 5)]) (by kernel_rfl)) (fun _ _ _ _ _ => (pg_name (i := 5) sc_diagonal.nd rfl (by first | exact Or.inl rfl | exact Or.inr rfl))) (fun _ _ _ _ _ => pts_nil) (fun _ _ _ _ _ => (pe_tup (pa_cons (pv 5) (pa_cons pe_int pa_nil))))))) (pa_cons (pe_lst pa_nil) pa_nil)) (by rfl))
    (pss_cons (ps_while PassesOwn.never (pt_cmpR (k_ne (K := K) rfl hr.units) (pv 1) (pe_lst pa_nil) (nomark _))
    (pss_cons (ps_set (i := 1) sc_diagonal.nd rfl (Or.inl rfl) (pe_cal C_with_lead hr (pa_cons (pv 1) pa_nil)))
    (pss_cons (ps_set (i := 3) sc_diagonal.nd rfl (by first | exact Or.inl rfl | exact Or.inr rfl) (pe_ix (k_ixl (K := K) rfl) (pv 1) pe_int (fun _ _ => rfl)))
    (pss_cons (ps_expr (pe_bm PySem.F.plainAttrs_list PySem.F.slot_list_append PySem.F.type_list_append mt_append (pv 2) (pa_cons (pe_ix (k_ixl (K := K) rfl) (pv 3) pe_int (fun _ _ => rfl)) pa_nil)))
    (pss_one (ps_setLc (i := 1) (own := [("row", 4)]) rfl sc_diagonal.nd rfl rfl (sw_true rfl rfl rfl (by decide +kernel)) (k_pl (K := K) rfl (pe_slice (k_slL (K := K) rfl) (pv 1) (po_some pe_int) po_none)) (blkOk_by (own := [("row", 4)]) (by kernel_rfl)) (fun _ _ _ _ _ => (pg_name (i := 4) sc_diagonal.nd rfl (by first | exact Or.inl rfl | exact Or.inr rfl))) (fun _ _ _ _ _ => pts_nil) (fun _ _ _ _ _ => (pe_cal C_behind hr (pa_cons (pv 4) (pa_cons (pv 3) pa_nil))))))))))
    (pss_one (ps_ret (pv 2))))), ?_⟩
    fail "sx"
    refine ⟨fun m σ H' => (m = 2 ∧ DA K H p a b c σ H') ∨ (m = 1 ∧ DB K H p σ H') ∨ (m = 0 ∧ DC K H p σ H'), ⟨2, .inl ⟨rfl, ?_⟩⟩, ?_⟩
    · apply daI
      fail "sm"
      fail "lk"
      fail "nn"
      fail "sl"
      fail "sl"
      fail "sl"
      fail "st"
      fail "st"
      fail "st"
      fail "st"
    rintro m σ H' (⟨rfl, L, F, r0, r1, f0, f1, g0, g1, rfl, hs', hF, hF0, hL, h0, h1, t0, t1, t2, t3⟩ | ⟨rfl, L, F, f0, e0, n, d, n2, d2, o1, o2, o3, rfl, hs', hF, hF0, ⟨r0, hL, h0⟩, t0, n0, t1⟩ | ⟨rfl, L, F, e0, e1, n, d, n2, d2, o1, o2, o3, rfl, hs', hF, hL, t0, t1⟩)
    · fail "sx"
      refine ⟨fun σ' H' => DB K H p σ' H', fun σ' H' q => ⟨1, by decide, .inr (.inl ⟨rfl, q⟩)⟩, ?_⟩
      fail "sx"
      refine Or.inl ?_
      apply leadJ2 a0
      fail "sl"
      fail "sl"
      fail "sl"
      fail "st"
      fail "sx"
      apply behJ
      fail "sl"
      fail "sl"
      fail "st"
      fail "st"
      fail "st"
      fail "st"
      exact a0
      exact aa
      exact bb
      exact cc
      exact hd
      fail "sx"
      conv => whnf
      apply dbI
      fail "sm"
      fail "lk"
      exact hF0
      fail "sl"
      fail "sl"
      fail "st"
      assumption
      fail "st"
    · fail "sx"
      refine ⟨fun σ' H' => DC K H p σ' H', fun σ' H' q => ⟨0, by decide, .inr (.inr ⟨rfl, q⟩)⟩, ?_⟩
      fail "sx"
      refine Or.inr ?_
      apply leadJ1 n0
      fail "sl"
      fail "sl"
      fail "st"
      fail "sx"
      conv => whnf
      apply dcI
      fail "sm"
      fail "lk"
      fail "sl"
      fail "st"
      fail "st"
    · fail "sx"
      apply k
      fail "sm"
      fail "sl"
      fail "st"
      fail "st"
end
end G41
set_option Elab.async false
set_option linter.all false
set_option maxRecDepth 100000
set_option maxHeartbeats 4000000
namespace G41
open PySem PySem.Spec PyProof.Rows L2
local macro_rules | `(tactic| fail "rd1") => `(tactic| first
  | refine ⟨_, rfl, ?_⟩
  | refine ⟨_, _, rfl, rfl, ?_⟩
  | refine ⟨rfl, ?_⟩
  | refine ⟨_, _, rfl, ?_⟩
  | refine ⟨_, _, _, rfl, ?_⟩
  | fail)
local macro_rules | `(tactic| fail "rd") => `(tactic| repeat (fail "rd1"))
local macro_rules | `(tactic| fail "nn") => `(tactic| first
  | with_reducible assumption
  | (apply lkn; fail "ne"; fail "nn")
  | (apply none_same; with_reducible assumption; fail "sm"))
local macro_rules | `(tactic| fail "ne") => `(tactic| first
  | with_reducible assumption
  | exact (old_ne (by with_reducible assumption) (by with_reducible assumption)).1
  | exact (old_ne (by with_reducible assumption) (by with_reducible assumption)).2
  | (apply ne_new1; with_reducible assumption; fail "lk")
  | (apply ne_new2; with_reducible assumption; fail "lk"))
local macro_rules | `(tactic| fail "lk") => `(tactic| first
  | with_reducible assumption
  | exact upd_same
  | (apply lkn; fail "ne"; fail "lk")
  | (apply same_upd; with_reducible assumption; fail "lk"))
local macro_rules | `(tactic| fail "sm") => `(tactic| first
  | with_reducible assumption
  | exact Same.refl _
  | (apply same_mut; fail "sm"; fail "nn")
  | (apply trans_same; with_reducible assumption; fail "sm"))
local macro_rules | `(tactic| fail "sl") => `(tactic| first
  | with_reducible assumption
  | (apply lst_same; with_reducible assumption; fail "sm")
  | (apply SqL.of; fail "lk")
  | (apply lst_new; fail "nn"; fail "sl")
  | (apply lst_updn; fail "ne"; fail "sl")
  | (apply lst_trans; with_reducible assumption; fail "sl"))
local macro_rules | `(tactic| fail "st") => `(tactic| first
  | with_reducible assumption
  | (apply tup_same; with_reducible assumption; fail "sm")
  | (apply SqT.of; fail "lk")
  | (apply tup_new; fail "nn"; fail "st")
  | (apply tup_upd; fail "lk"; fail "st")
  | (apply tup_trans; with_reducible assumption; fail "st")
  | (apply tup_updI; fail "lk"; fail "st"))
local macro_rules | `(tactic| fail "nw") => `(tactic| (repeat (refine nwI (fun _ _ => ?_))); refine fun _ => ?_)
local macro_rules | `(tactic| fail "ln") => `(tactic| first
  | exact lenLt (Nat.le_of_ble_eq_true rfl)
  | exact Nat.le_of_ble_eq_true rfl)
local macro_rules | `(tactic| fail "un") => `(tactic| first
  | apply un_lcR
  | (refine un_lc2 2 ?_)
  | (apply un_lcL; fail "sl")
  | (apply un_lcT; fail "st")
  | (apply un_lcZ; fail "sl")
  | (apply un_lcZT; fail "st")
  | (apply un_lcZM; fail "sl"))
local macro_rules | `(tactic| fail "uf") => `(tactic| first
  | apply un_forR
  | (apply un_forL; fail "sl")
  | (apply un_forT; fail "st")
  | (apply un_forZ; fail "sl")
  | (apply un_forZT; fail "st")
  | (apply un_forZM; fail "sl")
  | (apply un_forE; fail "st"))
local macro_rules | `(tactic| fail "ns") => `(tactic| try simp only [wipe, L2.start, List.set_cons_zero, List.set_cons_succ, List.map_cons, List.map_nil, List.length_cons, List.length_nil, List.replicate_succ, List.replicate_zero, List.cons_append, List.nil_append, Nat.reduceAdd, Nat.reduceSub])
local macro_rules | `(tactic| fail "da") => `(tactic| first
  | exact DpAll.nil
  | (apply DpAll.cons; (first | exact Dp.int _ | (apply Dp.tup; fail "st"; fail "da") | (apply Dp.lst; fail "sl"; fail "da") | exact Dp.bl _ | exact Dp.str _); fail "da"))
local macro_rules | `(tactic| fail "dp") => `(tactic| first
  | exact Dp.int _
  | (apply Dp.tup; fail "st"; fail "da")
  | (apply Dp.lst; fail "sl"; fail "da"))
local macro_rules | `(tactic| fail "so") => `(tactic| first
  | (apply sx_upd; fail "so")
  | (apply sx_mut; fail "so"; fail "nn")
  | (apply sx_of; fail "sm"))
local macro_rules | `(tactic| fail "lg") => `(tactic| (refine PyProof.Rows.int_text_len_1921 (lg_small ?_); omega))
local macro_rules | `(tactic| fail "sx1") => `(tactic| (conv => whnf); first
  | (refine fun _ => ?_; fail "nw"; first | fail "un" | skip)
  | (refine fun _ => ?_)
  | (refine wipe_1 (by decide) ?_; fail "ns")
  | (refine wipe_2 (by decide) (by decide) ?_; fail "ns")
  | (refine ⟨_, rfl, ?_⟩)
  | (refine ⟨rfl, ?_⟩)
  | (refine ⟨_, _, rfl, rfl, ?_⟩)
  | (refine ⟨_, _, rfl, ?_⟩)
  | (refine ⟨_, _, _, rfl, ?_⟩)
  | apply un_forR
  | (apply un_forL; fail "sl")
  | (apply un_forT; fail "st")
  | (apply un_forZ; fail "sl")
  | (apply un_forZT; fail "st")
  | (apply un_forZM; fail "sl")
  | (apply un_forE; fail "st")
  | apply un_inR
  | (apply tyI; fail "sl")
  | (apply dpI; fail "dp"; fail "dp"; rfl; rfl)
  | (apply gtI; fail "st"; rfl)
  | apply isi_ii
  | apply isi_ib
  | (apply isi_tt; fail "st")
  | refine divN1 ?_
  | (apply nx_range; exact Nat.le_of_ble_eq_true rfl)
  | (apply nx_list; fail "sl"; rfl)
  | (apply nx_tup; fail "st"; rfl)
  | (apply nx_zip; fail "sl"; fail "sl"; rfl; rfl)
  | (apply nx_zipT; fail "st"; fail "st"; rfl; rfl)
  | (apply nx_zipM; fail "sl"; fail "st"; rfl; rfl)
  | (apply nx_enumT; fail "st"; rfl)
  | (apply st_range; fail "ln")
  | (apply st_list; fail "sl"; fail "ln")
  | (apply st_tup; fail "st"; fail "ln")
  | (apply st_zip; fail "sl"; fail "sl"; fail "ln")
  | (apply st_zipT; fail "st"; fail "st"; fail "ln")
  | (apply st_zipM; fail "sl"; fail "st"; rfl; rfl)
  | (apply st_enumT; fail "st"; rfl)
  | (apply mulR; with_reducible assumption)
  | (apply mulL; with_reducible assumption)
  | (apply accI; fail "lk"; fail "ln")
  | (apply apdI; fail "lk"; fail "ln")
  | (apply ixLI; fail "sl"; rfl)
  | (apply ixTI; fail "st"; rfl)
  | (apply setI; fail "lk"; rfl)
  | (apply slLI; fail "sl")
  | (apply sum2I; fail "sl")
  | (apply rep2I; fail "lk"; exact Nat.le_of_ble_eq_true rfl)
  | (refine And.intro (lg_small ?_) ?_; omega)
  | (apply joinI3; fail "sl"; fail "lg"; fail "lg"; fail "lg"; decide)
  | (apply enI; fail "st")
  | (apply enL; fail "sl")
  | (apply ppL; fail "sl")
  | (apply ppT; fail "st")
  | (apply pqL; fail "sl")
  | (apply pqT; fail "st")
  | (apply pzL; fail "sl"; fail "sl")
  | (apply pzT; fail "st"; fail "st")
  | (apply pzM; fail "sl"; fail "st")
  | (refine Or.inl ⟨_, rfl, ?_⟩)
  | (refine Or.inr ⟨_, rfl, ?_⟩)
  | (apply pxL; fail "sl")
  | (apply pxT; fail "st")
  | (refine iteTI rfl ?_)
  | (refine iteFI Bool.false_ne_true ?_)
  | (refine iteTI ?_ ?_; (simp [*]; done))
  | (refine iteFI ?_ ?_; (simp [*]; done))
  | (refine And.intro ?_ ?_; first | decide | (simp only [List.length_append, List.length_cons, List.length_nil]; decide)))
local macro_rules | `(tactic| fail "sx") => `(tactic| repeat (fail "sx1"))
local macro_rules | `(tactic| fail "tx1") => `(tactic| (conv => whnf); first
  | (refine fun _ => ?_; fail "nw")
  | (refine fun _ => ?_)
  | (refine wipe_1 (by decide) ?_; fail "ns")
  | (refine wipe_2 (by decide) (by decide) ?_; fail "ns")
  | (refine ⟨_, rfl, ?_⟩)
  | (refine ⟨rfl, ?_⟩)
  | (refine ⟨_, _, rfl, rfl, ?_⟩)
  | (refine ⟨_, _, rfl, ?_⟩)
  | (refine ⟨_, _, _, rfl, ?_⟩)
  | apply un_forR
  | (apply un_forL; fail "sl")
  | (apply un_forT; fail "st")
  | (apply un_forZ; fail "sl")
  | (apply un_forZT; fail "st")
  | (apply un_forZM; fail "sl")
  | (apply un_forE; fail "st")
  | apply un_inR
  | (apply tyI; fail "sl")
  | (apply dpI; fail "dp"; fail "dp"; rfl; rfl)
  | (apply gtI; fail "st"; rfl)
  | apply isi_ii
  | apply isi_ib
  | (apply isi_tt; fail "st")
  | refine divN1 ?_
  | (apply nx_range; exact Nat.le_of_ble_eq_true rfl)
  | (apply nx_list; fail "sl"; rfl)
  | (apply nx_tup; fail "st"; rfl)
  | (apply nx_zip; fail "sl"; fail "sl"; rfl; rfl)
  | (apply nx_zipT; fail "st"; fail "st"; rfl; rfl)
  | (apply nx_zipM; fail "sl"; fail "st"; rfl; rfl)
  | (apply nx_enumT; fail "st"; rfl)
  | (apply st_range; fail "ln")
  | (apply st_list; fail "sl"; fail "ln")
  | (apply st_tup; fail "st"; fail "ln")
  | (apply st_zip; fail "sl"; fail "sl"; fail "ln")
  | (apply st_zipT; fail "st"; fail "st"; fail "ln")
  | (apply st_zipM; fail "sl"; fail "st"; rfl; rfl)
  | (apply st_enumT; fail "st"; rfl)
  | (apply mulR; with_reducible assumption)
  | (apply mulL; with_reducible assumption)
  | (apply accI; fail "lk"; fail "ln")
  | (apply apdI; fail "lk"; fail "ln")
  | (apply ixLI; fail "sl"; rfl)
  | (apply ixTI; fail "st"; rfl)
  | (apply setI; fail "lk"; rfl)
  | (apply slLI; fail "sl")
  | (apply sum2I; fail "sl")
  | (apply rep2I; fail "lk"; exact Nat.le_of_ble_eq_true rfl)
  | (refine And.intro (lg_small ?_) ?_; omega)
  | (apply joinI3; fail "sl"; fail "lg"; fail "lg"; fail "lg"; decide)
  | (apply enI; fail "st")
  | (apply enL; fail "sl")
  | (apply ppL; fail "sl")
  | (apply ppT; fail "st")
  | (apply pqL; fail "sl")
  | (apply pqT; fail "st")
  | (apply pzL; fail "sl"; fail "sl")
  | (apply pzT; fail "st"; fail "st")
  | (apply pzM; fail "sl"; fail "st")
  | (refine Or.inl ⟨_, rfl, ?_⟩)
  | (refine Or.inr ⟨_, rfl, ?_⟩)
  | (apply pxL; fail "sl")
  | (apply pxT; fail "st")
  | (refine iteTI rfl ?_)
  | (refine iteFI Bool.false_ne_true ?_)
  | (refine iteTI ?_ ?_; (simp [*]; done))
  | (refine iteFI ?_ ?_; (simp [*]; done))
  | (refine And.intro ?_ ?_; first | decide | (simp only [List.length_append, List.length_cons, List.length_nil]; decide)))
local macro_rules | `(tactic| fail "tx") => `(tactic| repeat (fail "tx1"))
local macro_rules | `(tactic| fail "om") => `(tactic| first
  | omega
  | (dsimp only; omega)
  | (split <;> omega)
  | (dsimp only; split <;> omega))
local macro_rules | `(tactic| fail "bx1") => `(tactic| first
  | (refine iteD (fun _ => ?_) (fun _ => ?_))
  | (refine iteN (fun _ => ?_) (fun _ => ?_))
  | (refine iteE (fun _ => ?_) (fun _ => ?_))
  | (refine iteTI rfl ?_)
  | (refine iteFI Bool.false_ne_true ?_)
  | (refine ⟨_, rfl, ?_⟩)
  | (refine ⟨_, _, rfl, rfl, ?_⟩)
  | (refine ⟨rfl, ?_⟩)
  | (refine ⟨_, _, rfl, ?_⟩)
  | (apply mulR; with_reducible assumption)
  | (apply mulL; with_reducible assumption)
  | (apply mulL; refine ⟨?_, ?_⟩ <;> fail "om")
  | (apply powI; fail "om"))
local macro_rules | `(tactic| fail "bx") => `(tactic| repeat' (fail "bx1"))

section
variable {P : Program} {w : World} {K : PySem.W.Frag} {mg : Str → Option Value} {base : Heap} {f : Addr} {fd : FuncData}
theorem ok_kind_for (T : Tx K mg) (F : FnP K "kind_for" s_kind_for f fd) : FnOk P w K mg base CX0 1 f fd ps_kind_for (fun vs H Q _ => ∃ p m x y, vs = [.ref p, .int m] ∧ SqT K H p [.int x, .int y] ∧ ∀ z : Str, z.length ≤ 10 → Q (.str z) H) := by
  refine F.ok sc_kind_for (fun vs H Q E h => ?_) (fun cdv A outer s H vs Q E hr h => ?_)
  · obtain ⟨p, m, x, y, rfl, _⟩ := h
    rfl
  · obtain ⟨p, m, x, y, rfl, hp, k⟩ := h
    refine ⟨_, PSs.nox (pss_cons (ps_asg (pv 0) (k_tup (K := K) (n := 2) rfl (by rfl) (pgs_cons (pg_name (i := 2) sc_kind_for.nd rfl (by first | exact Or.inl rfl | exact Or.inr rfl)) (pgs_cons (pg_name (i := 3) sc_kind_for.nd rfl (by first | exact Or.inl rfl | exact Or.inr rfl)) pgs_nil))))
    (pss_cons (ps_if (pt_cmpR op_lt (pe_op op_add (pv 2) (pv 3)) (pv 1) (nomark _))
    (pss_one (ps_ret pe_str))
    pss_nil)
    (pss_cons (ps_if (pt_cmpR op_eq (pv 3) pe_int (nomark _))
    (pss_one (ps_ret pe_str))
    pss_nil)
    (pss_one (ps_ret (pe_ifExp (pt_cmpR op_gt (pv 2) pe_int (nomark _)) pe_str pe_str)))))), ?_⟩
    fail "sx"
    refine iteB (fun _ => ?_) (fun _ => ?_)
    · fail "sx"
      exact k _ (by decide)
    · fail "sx"
      refine iteB (fun _ => ?_) (fun _ => ?_)
      · fail "sx"
        exact k _ (by decide)
      · fail "sx"
        refine iteB (fun _ => ?_) (fun _ => ?_)
        · fail "sx"
          exact k _ (by decide)
        · fail "sx"
          exact k _ (by decide)
def spInt : Sp := fun vs H Q _ => ∃ v : Int, vs = [.int v] ∧ Q (.bl true) H
theorem ok_is_between (T : Tx K mg) (C_is_integer : Cal P w K mg base 1 "is_integer" ps_is_integer spInt) (F : FnP K "is_between" s_is_between f fd) : FnOk P w K mg base CX0 2 f fd ps_is_between (fun vs H Q _ => ∃ v a b : Int, vs = [.int v, .int a, .int b] ∧ Q (.bl (decide (a ≤ v) && decide (v ≤ b))) H) := by
  refine F.ok sc_is_between (fun vs H Q E h => ?_) (fun cdv A outer s H vs Q E hr h => ?_)
  · obtain ⟨v, a, b, rfl, _⟩ := h
    rfl
  · obtain ⟨v, a, b, rfl, k⟩ := h
    refine ⟨_, PSs.nox (pss_one (ps_ret (pe_and (pe_cal C_is_integer hr (pa_cons (pv 0) pa_nil)) (pe_one (pe_chain op_le op_le (pv 1) (pv 0) (pv 2)))))), ?_⟩
    fail "rd"
    refine iteD (fun h1 => ?_) (fun h1 => ?_)
    · fail "rd"
      rw [show (decide (a ≤ v) && decide (v ≤ b)) = decide (v ≤ b) by simp [h1]] at k
      exact k
    · rw [show (decide (a ≤ v) && decide (v ≤ b)) = false by simp [h1]] at k
      exact k
end
end G41
set_option Elab.async false
set_option linter.all false
set_option maxRecDepth 100000
set_option maxHeartbeats 4000000
namespace G41
open PySem PySem.Spec PyProof.Rows L2
abbrev s_table_for : Stmt := top 45
abbrev nm_table_for : List Str := ["coefficients", "size", "found", "own", "row", "column"]
abbrev ps_table_for : List Str := ["coefficients"]
theorem sc_table_for : FnScope nm_table_for ps_table_for (defScope s_table_for) := ⟨rfl, rfl, rfl, by decide +kernel, rfl, by decide +kernel, by decide +kernel⟩
abbrev s_check_coefficients : Stmt := top 47
abbrev nm_check_coefficients : List Str := ["values", "index", "value"]
abbrev ps_check_coefficients : List Str := ["values"]
theorem sc_check_coefficients : FnScope nm_check_coefficients ps_check_coefficients (defScope s_check_coefficients) := ⟨rfl, rfl, rfl, by decide +kernel, rfl, by decide +kernel, by decide +kernel⟩
local macro_rules | `(tactic| fail "rd1") => `(tactic| first
  | refine ⟨_, rfl, ?_⟩
  | refine ⟨_, _, rfl, rfl, ?_⟩
  | refine ⟨rfl, ?_⟩
  | refine ⟨_, _, rfl, ?_⟩
  | refine ⟨_, _, _, rfl, ?_⟩
  | fail)
local macro_rules | `(tactic| fail "rd") => `(tactic| repeat (fail "rd1"))
local macro_rules | `(tactic| fail "nn") => `(tactic| first
  | with_reducible assumption
  | (apply lkn; fail "ne"; fail "nn")
  | (apply none_same; with_reducible assumption; fail "sm"))
local macro_rules | `(tactic| fail "ne") => `(tactic| first
  | with_reducible assumption
  | exact (old_ne (by with_reducible assumption) (by with_reducible assumption)).1
  | exact (old_ne (by with_reducible assumption) (by with_reducible assumption)).2
  | (apply ne_new1; with_reducible assumption; fail "lk")
  | (apply ne_new2; with_reducible assumption; fail "lk"))
local macro_rules | `(tactic| fail "lk") => `(tactic| first
  | with_reducible assumption
  | exact upd_same
  | (apply lkn; fail "ne"; fail "lk")
  | (apply same_upd; with_reducible assumption; fail "lk"))
local macro_rules | `(tactic| fail "sm") => `(tactic| first
  | with_reducible assumption
  | exact Same.refl _
  | (apply same_mut; fail "sm"; fail "nn")
  | (apply trans_same; with_reducible assumption; fail "sm"))
local macro_rules | `(tactic| fail "sl") => `(tactic| first
  | with_reducible assumption
  | (apply lst_same; with_reducible assumption; fail "sm")
  | (apply SqL.of; fail "lk")
  | (apply lst_new; fail "nn"; fail "sl")
  | (apply lst_updn; fail "ne"; fail "sl")
  | (apply lst_trans; with_reducible assumption; fail "sl"))
local macro_rules | `(tactic| fail "st") => `(tactic| first
  | with_reducible assumption
  | (apply tup_same; with_reducible assumption; fail "sm")
  | (apply SqT.of; fail "lk")
  | (apply tup_new; fail "nn"; fail "st")
  | (apply tup_upd; fail "lk"; fail "st")
  | (apply tup_trans; with_reducible assumption; fail "st")
  | (apply tup_updI; fail "lk"; fail "st"))
local macro_rules | `(tactic| fail "nw") => `(tactic| (repeat (refine nwI (fun _ _ => ?_))); refine fun _ => ?_)
local macro_rules | `(tactic| fail "ln") => `(tactic| first
  | exact lenLt (Nat.le_of_ble_eq_true rfl)
  | exact Nat.le_of_ble_eq_true rfl)
local macro_rules | `(tactic| fail "un") => `(tactic| first
  | apply un_lcR
  | (refine un_lc2 2 ?_)
  | (apply un_lcL; fail "sl")
  | (apply un_lcT; fail "st")
  | (apply un_lcZ; fail "sl")
  | (apply un_lcZT; fail "st")
  | (apply un_lcZM; fail "sl"))
local macro_rules | `(tactic| fail "uf") => `(tactic| first
  | apply un_forR
  | (apply un_forL; fail "sl")
  | (apply un_forT; fail "st")
  | (apply un_forZ; fail "sl")
  | (apply un_forZT; fail "st")
  | (apply un_forZM; fail "sl")
  | (apply un_forE; fail "st"))
local macro_rules | `(tactic| fail "ns") => `(tactic| try simp only [wipe, L2.start, List.set_cons_zero, List.set_cons_succ, List.map_cons, List.map_nil, List.length_cons, List.length_nil, List.replicate_succ, List.replicate_zero, List.cons_append, List.nil_append, Nat.reduceAdd, Nat.reduceSub])
local macro_rules | `(tactic| fail "da") => `(tactic| first
  | exact DpAll.nil
  | (apply DpAll.cons; (first | exact Dp.int _ | (apply Dp.tup; fail "st"; fail "da") | (apply Dp.lst; fail "sl"; fail "da") | exact Dp.bl _ | exact Dp.str _); fail "da"))
local macro_rules | `(tactic| fail "dp") => `(tactic| first
  | exact Dp.int _
  | (apply Dp.tup; fail "st"; fail "da")
  | (apply Dp.lst; fail "sl"; fail "da"))
local macro_rules | `(tactic| fail "so") => `(tactic| first
  | (apply sx_upd; fail "so")
  | (apply sx_mut; fail "so"; fail "nn")
  | (apply sx_of; fail "sm"))
local macro_rules | `(tactic| fail "lg") => `(tactic| (refine PyProof.Rows.int_text_len_1921 (lg_small ?_); omega))
local macro_rules | `(tactic| fail "sx1") => `(tactic| (conv => whnf); first
  | (refine fun _ => ?_; fail "nw"; first | fail "un" | skip)
  | (refine fun _ => ?_)
  | (refine wipe_1 (by decide) ?_; fail "ns")
  | (refine wipe_2 (by decide) (by decide) ?_; fail "ns")
  | (refine ⟨_, rfl, ?_⟩)
  | (refine ⟨rfl, ?_⟩)
  | (refine ⟨_, _, rfl, rfl, ?_⟩)
  | (refine ⟨_, _, rfl, ?_⟩)
  | (refine ⟨_, _, _, rfl, ?_⟩)
  | apply un_forR
  | (apply un_forL; fail "sl")
  | (apply un_forT; fail "st")
  | (apply un_forZ; fail "sl")
  | (apply un_forZT; fail "st")
  | (apply un_forZM; fail "sl")
  | (apply un_forE; fail "st")
  | apply un_inR
  | (apply tyI; fail "sl")
  | (apply dpI; fail "dp"; fail "dp"; rfl; rfl)
  | (apply gtI; fail "st"; rfl)
  | apply isi_ii
  | apply isi_ib
  | (apply isi_tt; fail "st")
  | refine divN1 ?_
  | (apply nx_range; exact Nat.le_of_ble_eq_true rfl)
  | (apply nx_list; fail "sl"; rfl)
  | (apply nx_tup; fail "st"; rfl)
  | (apply nx_zip; fail "sl"; fail "sl"; rfl; rfl)
  | (apply nx_zipT; fail "st"; fail "st"; rfl; rfl)
  | (apply nx_zipM; fail "sl"; fail "st"; rfl; rfl)
  | (apply nx_enumT; fail "st"; rfl)
  | (apply st_range; fail "ln")
  | (apply st_list; fail "sl"; fail "ln")
  | (apply st_tup; fail "st"; fail "ln")
  | (apply st_zip; fail "sl"; fail "sl"; fail "ln")
  | (apply st_zipT; fail "st"; fail "st"; fail "ln")
  | (apply st_zipM; fail "sl"; fail "st"; rfl; rfl)
  | (apply st_enumT; fail "st"; rfl)
  | (apply mulR; with_reducible assumption)
  | (apply mulL; with_reducible assumption)
  | (apply accI; fail "lk"; fail "ln")
  | (apply apdI; fail "lk"; fail "ln")
  | (apply ixLI; fail "sl"; rfl)
  | (apply ixTI; fail "st"; rfl)
  | (apply setI; fail "lk"; rfl)
  | (apply slLI; fail "sl")
  | (apply sum2I; fail "sl")
  | (apply rep2I; fail "lk"; exact Nat.le_of_ble_eq_true rfl)
  | (refine And.intro (lg_small ?_) ?_; omega)
  | (apply joinI3; fail "sl"; fail "lg"; fail "lg"; fail "lg"; decide)
  | (apply enI; fail "st")
  | (apply enL; fail "sl")
  | (apply ppL; fail "sl")
  | (apply ppT; fail "st")
  | (apply pqL; fail "sl")
  | (apply pqT; fail "st")
  | (apply pzL; fail "sl"; fail "sl")
  | (apply pzT; fail "st"; fail "st")
  | (apply pzM; fail "sl"; fail "st")
  | (refine Or.inl ⟨_, rfl, ?_⟩)
  | (refine Or.inr ⟨_, rfl, ?_⟩)
  | (apply pxL; fail "sl")
  | (apply pxT; fail "st")
  | (refine iteTI rfl ?_)
  | (refine iteFI Bool.false_ne_true ?_)
  | (refine iteTI ?_ ?_; (simp [*]; done))
  | (refine iteFI ?_ ?_; (simp [*]; done))
  | (refine And.intro ?_ ?_; first | decide | (simp only [List.length_append, List.length_cons, List.length_nil]; decide)))
local macro_rules | `(tactic| fail "sx") => `(tactic| repeat (fail "sx1"))
local macro_rules | `(tactic| fail "tx1") => `(tactic| (conv => whnf); first
  | (refine fun _ => ?_; fail "nw")
  | (refine fun _ => ?_)
  | (refine wipe_1 (by decide) ?_; fail "ns")
  | (refine wipe_2 (by decide) (by decide) ?_; fail "ns")
  | (refine ⟨_, rfl, ?_⟩)
  | (refine ⟨rfl, ?_⟩)
  | (refine ⟨_, _, rfl, rfl, ?_⟩)
  | (refine ⟨_, _, rfl, ?_⟩)
  | (refine ⟨_, _, _, rfl, ?_⟩)
  | apply un_forR
  | (apply un_forL; fail "sl")
  | (apply un_forT; fail "st")
  | (apply un_forZ; fail "sl")
  | (apply un_forZT; fail "st")
  | (apply un_forZM; fail "sl")
  | (apply un_forE; fail "st")
  | apply un_inR
  | (apply tyI; fail "sl")
  | (apply dpI; fail "dp"; fail "dp"; rfl; rfl)
  | (apply gtI; fail "st"; rfl)
  | apply isi_ii
  | apply isi_ib
  | (apply isi_tt; fail "st")
  | refine divN1 ?_
  | (apply nx_range; exact Nat.le_of_ble_eq_true rfl)
  | (apply nx_list; fail "sl"; rfl)
  | (apply nx_tup; fail "st"; rfl)
  | (apply nx_zip; fail "sl"; fail "sl"; rfl; rfl)
  | (apply nx_zipT; fail "st"; fail "st"; rfl; rfl)
  | (apply nx_zipM; fail "sl"; fail "st"; rfl; rfl)
  | (apply nx_enumT; fail "st"; rfl)
  | (apply st_range; fail "ln")
  | (apply st_list; fail "sl"; fail "ln")
  | (apply st_tup; fail "st"; fail "ln")
  | (apply st_zip; fail "sl"; fail "sl"; fail "ln")
  | (apply st_zipT; fail "st"; fail "st"; fail "ln")
  | (apply st_zipM; fail "sl"; fail "st"; rfl; rfl)
  | (apply st_enumT; fail "st"; rfl)
  | (apply mulR; with_reducible assumption)
  | (apply mulL; with_reducible assumption)
  | (apply accI; fail "lk"; fail "ln")
  | (apply apdI; fail "lk"; fail "ln")
  | (apply ixLI; fail "sl"; rfl)
  | (apply ixTI; fail "st"; rfl)
  | (apply setI; fail "lk"; rfl)
  | (apply slLI; fail "sl")
  | (apply sum2I; fail "sl")
  | (apply rep2I; fail "lk"; exact Nat.le_of_ble_eq_true rfl)
  | (refine And.intro (lg_small ?_) ?_; omega)
  | (apply joinI3; fail "sl"; fail "lg"; fail "lg"; fail "lg"; decide)
  | (apply enI; fail "st")
  | (apply enL; fail "sl")
  | (apply ppL; fail "sl")
  | (apply ppT; fail "st")
  | (apply pqL; fail "sl")
  | (apply pqT; fail "st")
  | (apply pzL; fail "sl"; fail "sl")
  | (apply pzT; fail "st"; fail "st")
  | (apply pzM; fail "sl"; fail "st")
  | (refine Or.inl ⟨_, rfl, ?_⟩)
  | (refine Or.inr ⟨_, rfl, ?_⟩)
  | (apply pxL; fail "sl")
  | (apply pxT; fail "st")
  | (refine iteTI rfl ?_)
  | (refine iteFI Bool.false_ne_true ?_)
  | (refine iteTI ?_ ?_; (simp [*]; done))
  | (refine iteFI ?_ ?_; (simp [*]; done))
  | (refine And.intro ?_ ?_; first | decide | (simp only [List.length_append, List.length_cons, List.length_nil]; decide)))
local macro_rules | `(tactic| fail "tx") => `(tactic| repeat (fail "tx1"))
local macro_rules | `(tactic| fail "om") => `(tactic| first
  | omega
  | (dsimp only; omega)
  | (split <;> omega)
  | (dsimp only; split <;> omega))
local macro_rules | `(tactic| fail "bx1") => `(tactic| first
  | (refine iteD (fun _ => ?_) (fun _ => ?_))
  | (refine iteN (fun _ => ?_) (fun _ => ?_))
  | (refine iteE (fun _ => ?_) (fun _ => ?_))
  | (refine iteTI rfl ?_)
  | (refine iteFI Bool.false_ne_true ?_)
  | (refine ⟨_, rfl, ?_⟩)
  | (refine ⟨_, _, rfl, rfl, ?_⟩)
  | (refine ⟨rfl, ?_⟩)
  | (refine ⟨_, _, rfl, ?_⟩)
  | (apply mulR; with_reducible assumption)
  | (apply mulL; with_reducible assumption)
  | (apply mulL; refine ⟨?_, ?_⟩ <;> fail "om")
  | (apply powI; fail "om"))
local macro_rules | `(tactic| fail "bx") => `(tactic| repeat' (fail "bx1"))

section
variable {P : Program} {w : World} {K : PySem.W.Frag} {mg : Str → Option Value} {base : Heap} {f : Addr} {fd : FuncData}
structure spPairs (K : PySem.W.Frag) (vs : List V) (H : Hp) (Q : VK) (E : XK) : Prop where
  ex : vs = [.int 2] ∧ ∀ H' p t0 t1 t2, Same H H' → SqL K H' p [.ref t0, .ref t1, .ref t2] → SqT K H' t0 [.int 0, .int 0] → SqT K H' t1 [.int 0, .int 1] → SqT K H' t2 [.int 1, .int 1] → H p = none → Q (.ref p) H'
theorem ok_pairs_of (T : Tx K mg) (F : FnP K "pairs_of" s_pairs_of f fd) : FnOk P w K mg base CX0 1 f fd ps_pairs_of (spPairs K) := by
  refine F.ok sc_pairs_of (fun vs H Q E h => ?_) (fun cdv A outer s H vs Q E hr h => ?_)
  · obtain ⟨rfl, _⟩ := h
    rfl
  · obtain ⟨rfl, k⟩ := h
    refine ⟨_, PSs.nox (pss_one (ps_ret (pe_lc2 (own := [("row", 1), ("column", 2)]) (vs1 := [2]) rfl sc_pairs_of.nd (pi_range1 (by rfl) T.b_range (pa_cons (pv 0) pa_nil)) (blkOk_by (own := [("row", 1), ("column", 2)]) (by kernel_rfl)) (by decide) (fun _ _ _ _ _ => (pg_name (i := 1) sc_pairs_of.nd rfl (by first | exact Or.inl rfl | exact Or.inr rfl))) (fun _ _ _ _ _ => pts_nil) (fun _ _ _ _ _ => (pi_range2 (by rfl) T.b_range (pa_cons (pv 1) (pa_cons (pv 0) pa_nil)))) (fun _ _ _ _ _ => (pg_name (i := 2) sc_pairs_of.nd rfl (by first | exact Or.inl rfl | exact Or.inr rfl))) (fun _ _ _ _ _ => pts_nil) (fun _ _ _ _ _ => (pe_tup (pa_cons (pv 1) (pa_cons (pv 2) pa_nil))))))), ?_⟩
    fail "sx"
    apply k
    fail "sm"
    fail "sl"
    fail "st"
    fail "st"
    fail "st"
    fail "nn"
structure spTable (K : PySem.W.Frag) (vs : List V) (H : Hp) (Q : VK) (E : XK) : Prop where
  ex : ∃ p a b c, vs = [.ref p] ∧ SqT K H p [.int a, .int b, .int c] ∧ ∀ H' p r s, Same H H' → SqT K H' p [.ref r, .ref s] → SqT K H' r [.int (0 + a + a), .int (0 + b)] → SqT K H' s [.int (0 + b), .int (0 + c + c)] → Q (.ref p) H'
theorem ok_table_for (T : Tx K mg) {ua : Addr} (U : UnkF K w mg ua) (C_pairs_of : Cal P w K mg base 1 "pairs_of" ps_pairs_of (spPairs K)) (F : FnP K "table_for" s_table_for f fd) : FnOk P w K mg base CX0 2 f fd ps_table_for (spTable K) := by
  refine F.ok sc_table_for (fun vs H Q E h => ?_) (fun cdv A outer s H vs Q E hr h => ?_)
  · obtain ⟨p, a, b, c, rfl, _⟩ := h
    rfl
  · obtain ⟨p, a, b, c, rfl, hp, k⟩ := h
    refine ⟨_, PSs.nox (pss_cons (ps_set (i := 1) sc_table_for.nd rfl (by first | exact Or.inl rfl | exact Or.inr rfl) (pe_unk U (pe_callB (k_len (K := K) rfl) (by rfl) T.b_len (by decide +kernel) (pa_cons (pv 0) pa_nil)) (fun _ _ => rfl)))
    (pss_cons (ps_setLc (i := 2) (own := [("row", 4)]) rfl sc_table_for.nd rfl rfl (sw_true rfl rfl rfl (by decide +kernel)) (pi_range1 (by rfl) T.b_range (pa_cons (pv 1) pa_nil)) (blkOk_by (own := [("row", 4)]) (by kernel_rfl)) (fun _ _ _ _ _ => (pg_name (i := 4) sc_table_for.nd rfl (by first | exact Or.inl rfl | exact Or.inr rfl))) (fun _ _ _ _ _ => pts_nil) (fun _ _ _ _ _ => (pe_op op_rep (pe_lst (pa_cons pe_int pa_nil)) (pv 1))))
    (pss_cons (ps_for PassesOwn.never rfl (k_zipM (K := K) rfl (by rfl) T.b_zip (pa_cons (pe_cal C_pairs_of hr (pa_cons (pv 1) pa_nil)) (pa_cons (pv 0) pa_nil))) (k_tup (K := K) (n := 2) rfl (by rfl) (pgs_cons (k_tup (K := K) (n := 2) rfl (by rfl) (pgs_cons (pg_name (i := 4) sc_table_for.nd rfl (by first | exact Or.inl rfl | exact Or.inr rfl)) (pgs_cons (pg_name (i := 5) sc_table_for.nd rfl (by first | exact Or.inl rfl | exact Or.inr rfl)) pgs_nil))) (pgs_cons (pg_name (i := 3) sc_table_for.nd rfl (by first | exact Or.inl rfl | exact Or.inr rfl)) pgs_nil)))
    (pss_cons (ps_asg (pe_op op_add (pe_ix (k_ixl (K := K) rfl) (pe_ix (k_ixl (K := K) rfl) (pv 2) (pv 4) (fun _ _ => rfl)) (pv 5) (fun _ _ => rfl)) (pv 3)) (pg_sub (pe_ix (k_ixl (K := K) rfl) (pv 2) (pv 4) (fun _ _ => rfl)) (pv 5) set_list))
    (pss_one (ps_asg (pe_op op_add (pe_ix (k_ixl (K := K) rfl) (pe_ix (k_ixl (K := K) rfl) (pv 2) (pv 5) (fun _ _ => rfl)) (pv 4) (fun _ _ => rfl)) (pv 3)) (pg_sub (pe_ix (k_ixl (K := K) rfl) (pv 2) (pv 5) (fun _ _ => rfl)) (pv 4) set_list)))))
    (pss_one (ps_ret (pe_callTy (k_tuple (K := K) rfl) (by rfl) T.b_tuple (by decide +kernel) (pa_cons (pe_lc (own := [("row", 4)]) rfl sc_table_for.nd (k_pl (K := K) rfl (pv 2)) (blkOk_by (own := [("row", 4)]) (by kernel_rfl)) (fun _ _ _ _ _ => (pg_name (i := 4) sc_table_for.nd rfl (by first | exact Or.inl rfl | exact Or.inr rfl))) (fun _ _ _ _ _ => pts_nil) (fun _ _ _ _ _ => (pe_callTy (k_tuple (K := K) rfl) (by rfl) T.b_tuple (by decide +kernel) (pa_cons (pv 4) pa_nil)))) pa_nil))))))), ?_⟩
    fail "sx"
    apply k
    fail "sm"
    fail "st"
    fail "st"
    fail "st"
end
end G41
set_option Elab.async false
set_option linter.all false
set_option maxRecDepth 100000
set_option maxHeartbeats 4000000
namespace G41
open PySem PySem.Spec PyProof.Rows L2
local macro_rules | `(tactic| fail "rd1") => `(tactic| first
  | refine ⟨_, rfl, ?_⟩
  | refine ⟨_, _, rfl, rfl, ?_⟩
  | refine ⟨rfl, ?_⟩
  | refine ⟨_, _, rfl, ?_⟩
  | refine ⟨_, _, _, rfl, ?_⟩
  | fail)
local macro_rules | `(tactic| fail "rd") => `(tactic| repeat (fail "rd1"))
local macro_rules | `(tactic| fail "nn") => `(tactic| first
  | with_reducible assumption
  | (apply lkn; fail "ne"; fail "nn")
  | (apply none_same; with_reducible assumption; fail "sm"))
local macro_rules | `(tactic| fail "ne") => `(tactic| first
  | with_reducible assumption
  | exact (old_ne (by with_reducible assumption) (by with_reducible assumption)).1
  | exact (old_ne (by with_reducible assumption) (by with_reducible assumption)).2
  | (apply ne_new1; with_reducible assumption; fail "lk")
  | (apply ne_new2; with_reducible assumption; fail "lk"))
local macro_rules | `(tactic| fail "lk") => `(tactic| first
  | with_reducible assumption
  | exact upd_same
  | (apply lkn; fail "ne"; fail "lk")
  | (apply same_upd; with_reducible assumption; fail "lk"))
local macro_rules | `(tactic| fail "sm") => `(tactic| first
  | with_reducible assumption
  | exact Same.refl _
  | (apply same_mut; fail "sm"; fail "nn")
  | (apply trans_same; with_reducible assumption; fail "sm"))
local macro_rules | `(tactic| fail "sl") => `(tactic| first
  | with_reducible assumption
  | (apply lst_same; with_reducible assumption; fail "sm")
  | (apply SqL.of; fail "lk")
  | (apply lst_new; fail "nn"; fail "sl")
  | (apply lst_updn; fail "ne"; fail "sl")
  | (apply lst_trans; with_reducible assumption; fail "sl"))
local macro_rules | `(tactic| fail "st") => `(tactic| first
  | with_reducible assumption
  | (apply tup_same; with_reducible assumption; fail "sm")
  | (apply SqT.of; fail "lk")
  | (apply tup_new; fail "nn"; fail "st")
  | (apply tup_upd; fail "lk"; fail "st")
  | (apply tup_trans; with_reducible assumption; fail "st")
  | (apply tup_updI; fail "lk"; fail "st"))
local macro_rules | `(tactic| fail "nw") => `(tactic| (repeat (refine nwI (fun _ _ => ?_))); refine fun _ => ?_)
local macro_rules | `(tactic| fail "ln") => `(tactic| first
  | exact lenLt (Nat.le_of_ble_eq_true rfl)
  | exact Nat.le_of_ble_eq_true rfl)
local macro_rules | `(tactic| fail "un") => `(tactic| first
  | apply un_lcR
  | (refine un_lc2 2 ?_)
  | (apply un_lcL; fail "sl")
  | (apply un_lcT; fail "st")
  | (apply un_lcZ; fail "sl")
  | (apply un_lcZT; fail "st")
  | (apply un_lcZM; fail "sl"))
local macro_rules | `(tactic| fail "uf") => `(tactic| first
  | apply un_forR
  | (apply un_forL; fail "sl")
  | (apply un_forT; fail "st")
  | (apply un_forZ; fail "sl")
  | (apply un_forZT; fail "st")
  | (apply un_forZM; fail "sl")
  | (apply un_forE; fail "st"))
local macro_rules | `(tactic| fail "ns") => `(tactic| try simp only [wipe, L2.start, List.set_cons_zero, List.set_cons_succ, List.map_cons, List.map_nil, List.length_cons, List.length_nil, List.replicate_succ, List.replicate_zero, List.cons_append, List.nil_append, Nat.reduceAdd, Nat.reduceSub])
local macro_rules | `(tactic| fail "da") => `(tactic| first
  | exact DpAll.nil
  | (apply DpAll.cons; (first | exact Dp.int _ | (apply Dp.tup; fail "st"; fail "da") | (apply Dp.lst; fail "sl"; fail "da") | exact Dp.bl _ | exact Dp.str _); fail "da"))
local macro_rules | `(tactic| fail "dp") => `(tactic| first
  | exact Dp.int _
  | (apply Dp.tup; fail "st"; fail "da")
  | (apply Dp.lst; fail "sl"; fail "da"))
local macro_rules | `(tactic| fail "so") => `(tactic| first
  | (apply sx_upd; fail "so")
  | (apply sx_mut; fail "so"; fail "nn")
  | (apply sx_of; fail "sm"))
local macro_rules | `(tactic| fail "lg") => `(tactic| (refine PyProof.Rows.int_text_len_1921 (lg_small ?_); omega))
local macro_rules | `(tactic| fail "sx1") => `(tactic| (conv => whnf); first
  | (refine fun _ => ?_; fail "nw"; first | fail "un" | skip)
  | (refine fun _ => ?_)
  | (refine wipe_1 (by decide) ?_; fail "ns")
  | (refine wipe_2 (by decide) (by decide) ?_; fail "ns")
  | (refine ⟨_, rfl, ?_⟩)
  | (refine ⟨rfl, ?_⟩)
  | (refine ⟨_, _, rfl, rfl, ?_⟩)
  | (refine ⟨_, _, rfl, ?_⟩)
  | (refine ⟨_, _, _, rfl, ?_⟩)
  | apply un_forR
  | (apply un_forL; fail "sl")
  | (apply un_forT; fail "st")
  | (apply un_forZ; fail "sl")
  | (apply un_forZT; fail "st")
  | (apply un_forZM; fail "sl")
  | (apply un_forE; fail "st")
  | apply un_inR
  | (apply tyI; fail "sl")
  | (apply dpI; fail "dp"; fail "dp"; rfl; rfl)
  | (apply gtI; fail "st"; rfl)
  | apply isi_ii
  | apply isi_ib
  | (apply isi_tt; fail "st")
  | refine divN1 ?_
  | (apply nx_range; exact Nat.le_of_ble_eq_true rfl)
  | (apply nx_list; fail "sl"; rfl)
  | (apply nx_tup; fail "st"; rfl)
  | (apply nx_zip; fail "sl"; fail "sl"; rfl; rfl)
  | (apply nx_zipT; fail "st"; fail "st"; rfl; rfl)
  | (apply nx_zipM; fail "sl"; fail "st"; rfl; rfl)
  | (apply nx_enumT; fail "st"; rfl)
  | (apply st_range; fail "ln")
  | (apply st_list; fail "sl"; fail "ln")
  | (apply st_tup; fail "st"; fail "ln")
  | (apply st_zip; fail "sl"; fail "sl"; fail "ln")
  | (apply st_zipT; fail "st"; fail "st"; fail "ln")
  | (apply st_zipM; fail "sl"; fail "st"; rfl; rfl)
  | (apply st_enumT; fail "st"; rfl)
  | (apply mulR; with_reducible assumption)
  | (apply mulL; with_reducible assumption)
  | (apply accI; fail "lk"; fail "ln")
  | (apply apdI; fail "lk"; fail "ln")
  | (apply ixLI; fail "sl"; rfl)
  | (apply ixTI; fail "st"; rfl)
  | (apply setI; fail "lk"; rfl)
  | (apply slLI; fail "sl")
  | (apply sum2I; fail "sl")
  | (apply rep2I; fail "lk"; exact Nat.le_of_ble_eq_true rfl)
  | (refine And.intro (lg_small ?_) ?_; omega)
  | (apply joinI3; fail "sl"; fail "lg"; fail "lg"; fail "lg"; decide)
  | (apply enI; fail "st")
  | (apply enL; fail "sl")
  | (apply ppL; fail "sl")
  | (apply ppT; fail "st")
  | (apply pqL; fail "sl")
  | (apply pqT; fail "st")
  | (apply pzL; fail "sl"; fail "sl")
  | (apply pzT; fail "st"; fail "st")
  | (apply pzM; fail "sl"; fail "st")
  | (refine Or.inl ⟨_, rfl, ?_⟩)
  | (refine Or.inr ⟨_, rfl, ?_⟩)
  | (apply pxL; fail "sl")
  | (apply pxT; fail "st")
  | (refine iteTI rfl ?_)
  | (refine iteFI Bool.false_ne_true ?_)
  | (refine iteTI ?_ ?_; (simp [*]; done))
  | (refine iteFI ?_ ?_; (simp [*]; done))
  | (refine And.intro ?_ ?_; first | decide | (simp only [List.length_append, List.length_cons, List.length_nil]; decide)))
local macro_rules | `(tactic| fail "sx") => `(tactic| repeat (fail "sx1"))
local macro_rules | `(tactic| fail "tx1") => `(tactic| (conv => whnf); first
  | (refine fun _ => ?_; fail "nw")
  | (refine fun _ => ?_)
  | (refine wipe_1 (by decide) ?_; fail "ns")
  | (refine wipe_2 (by decide) (by decide) ?_; fail "ns")
  | (refine ⟨_, rfl, ?_⟩)
  | (refine ⟨rfl, ?_⟩)
  | (refine ⟨_, _, rfl, rfl, ?_⟩)
  | (refine ⟨_, _, rfl, ?_⟩)
  | (refine ⟨_, _, _, rfl, ?_⟩)
  | apply un_forR
  | (apply un_forL; fail "sl")
  | (apply un_forT; fail "st")
  | (apply un_forZ; fail "sl")
  | (apply un_forZT; fail "st")
  | (apply un_forZM; fail "sl")
  | (apply un_forE; fail "st")
  | apply un_inR
  | (apply tyI; fail "sl")
  | (apply dpI; fail "dp"; fail "dp"; rfl; rfl)
  | (apply gtI; fail "st"; rfl)
  | apply isi_ii
  | apply isi_ib
  | (apply isi_tt; fail "st")
  | refine divN1 ?_
  | (apply nx_range; exact Nat.le_of_ble_eq_true rfl)
  | (apply nx_list; fail "sl"; rfl)
  | (apply nx_tup; fail "st"; rfl)
  | (apply nx_zip; fail "sl"; fail "sl"; rfl; rfl)
  | (apply nx_zipT; fail "st"; fail "st"; rfl; rfl)
  | (apply nx_zipM; fail "sl"; fail "st"; rfl; rfl)
  | (apply nx_enumT; fail "st"; rfl)
  | (apply st_range; fail "ln")
  | (apply st_list; fail "sl"; fail "ln")
  | (apply st_tup; fail "st"; fail "ln")
  | (apply st_zip; fail "sl"; fail "sl"; fail "ln")
  | (apply st_zipT; fail "st"; fail "st"; fail "ln")
  | (apply st_zipM; fail "sl"; fail "st"; rfl; rfl)
  | (apply st_enumT; fail "st"; rfl)
  | (apply mulR; with_reducible assumption)
  | (apply mulL; with_reducible assumption)
  | (apply accI; fail "lk"; fail "ln")
  | (apply apdI; fail "lk"; fail "ln")
  | (apply ixLI; fail "sl"; rfl)
  | (apply ixTI; fail "st"; rfl)
  | (apply setI; fail "lk"; rfl)
  | (apply slLI; fail "sl")
  | (apply sum2I; fail "sl")
  | (apply rep2I; fail "lk"; exact Nat.le_of_ble_eq_true rfl)
  | (refine And.intro (lg_small ?_) ?_; omega)
  | (apply joinI3; fail "sl"; fail "lg"; fail "lg"; fail "lg"; decide)
  | (apply enI; fail "st")
  | (apply enL; fail "sl")
  | (apply ppL; fail "sl")
  | (apply ppT; fail "st")
  | (apply pqL; fail "sl")
  | (apply pqT; fail "st")
  | (apply pzL; fail "sl"; fail "sl")
  | (apply pzT; fail "st"; fail "st")
  | (apply pzM; fail "sl"; fail "st")
  | (refine Or.inl ⟨_, rfl, ?_⟩)
  | (refine Or.inr ⟨_, rfl, ?_⟩)
  | (apply pxL; fail "sl")
  | (apply pxT; fail "st")
  | (refine iteTI rfl ?_)
  | (refine iteFI Bool.false_ne_true ?_)
  | (refine iteTI ?_ ?_; (simp [*]; done))
  | (refine iteFI ?_ ?_; (simp [*]; done))
  | (refine And.intro ?_ ?_; first | decide | (simp only [List.length_append, List.length_cons, List.length_nil]; decide)))
local macro_rules | `(tactic| fail "tx") => `(tactic| repeat (fail "tx1"))
local macro_rules | `(tactic| fail "om") => `(tactic| first
  | omega
  | (dsimp only; omega)
  | (split <;> omega)
  | (dsimp only; split <;> omega))
local macro_rules | `(tactic| fail "bx1") => `(tactic| first
  | (refine iteD (fun _ => ?_) (fun _ => ?_))
  | (refine iteN (fun _ => ?_) (fun _ => ?_))
  | (refine iteE (fun _ => ?_) (fun _ => ?_))
  | (refine iteTI rfl ?_)
  | (refine iteFI Bool.false_ne_true ?_)
  | (refine ⟨_, rfl, ?_⟩)
  | (refine ⟨_, _, rfl, rfl, ?_⟩)
  | (refine ⟨rfl, ?_⟩)
  | (refine ⟨_, _, rfl, ?_⟩)
  | (apply mulR; with_reducible assumption)
  | (apply mulL; with_reducible assumption)
  | (apply mulL; refine ⟨?_, ?_⟩ <;> fail "om")
  | (apply powI; fail "om"))
local macro_rules | `(tactic| fail "bx") => `(tactic| repeat' (fail "bx1"))

section
variable {P : Program} {w : World} {K : PySem.W.Frag} {mg : Str → Option Value} {base : Heap} {f : Addr} {fd : FuncData}
def spBetween : Sp := fun vs H Q _ => ∃ v a b : Int, vs = [.int v, .int a, .int b] ∧ Q (.bl (decide (a ≤ v) && decide (v ≤ b))) H
structure spChk (K : PySem.W.Frag) (vs : List V) (H : Hp) (Q : VK) (E : XK) : Prop where
  ex : ∃ p a b c, vs = [.ref p] ∧ SqT K H p [.int a, .int b, .int c] ∧ a.natAbs ≤ 1000000 ∧ b.natAbs ≤ 1000000 ∧ c.natAbs ≤ 1000000 ∧ ∀ H', Same H H' → Q .non H'
theorem ok_check_coefficients (T : Tx K mg) {ua : Addr} (U : UnkF K w mg ua) (C_is_between : Cal P w K mg base 2 "is_between" ps_is_between spBetween) (F : FnP K "check_coefficients" s_check_coefficients f fd) : FnOk P w K mg base CX0 3 f fd ps_check_coefficients (spChk K) := by
  refine F.ok sc_check_coefficients (fun vs H Q E h => ?_) (fun cdv A outer s H vs Q E hr h => ?_)
  · obtain ⟨p, a, b, c, rfl, _⟩ := h
    rfl
  · obtain ⟨p, a, b, c, rfl, hp, aa, bb, cc, k⟩ := h
    refine ⟨_, PSs.nox (pss_cons (ps_if (PW.pt (pw_or (pt_not (pt_val (pe_callB (k_isi (K := K) rfl) (by rfl) T.b_isinstance (by decide +kernel) (pa_cons (pv 0) (pa_cons (pe_bltn (by rfl) T.b_tuple (by decide +kernel) (show RelV (.ty "tuple") (.type "tuple") from rfl)) pa_nil))))) (pw_or1 (pt_cmp (pc_unkN U (pe_callB (k_len (K := K) rfl) (by rfl) T.b_len (by decide +kernel) (pa_cons (pv 0) pa_nil)))))))
    (pss_one ps_never)
    pss_nil)
    (pss_one (ps_for PassesOwn.never rfl (k_enumT (K := K) rfl (by rfl) T.b_enumerate (pa_cons (pv 0) pa_nil)) (k_tup (K := K) (n := 2) rfl (by rfl) (pgs_cons (pg_name (i := 1) sc_check_coefficients.nd rfl (by first | exact Or.inl rfl | exact Or.inr rfl)) (pgs_cons (pg_name (i := 2) sc_check_coefficients.nd rfl (by first | exact Or.inl rfl | exact Or.inr rfl)) pgs_nil)))
    (pss_one (ps_if (pt_not (pt_val (pe_cal C_is_between hr (pa_cons (pv 2) (pa_cons (pe_un un_neg (pe_gi T.g_size)) (pa_cons (pe_gi T.g_size) pa_nil))))))
    (pss_one ps_never)
    pss_nil))))), ?_⟩
    fail "sx"
    refine iteFI (by simp; omega) ?_
    fail "sx"
    refine iteFI (by simp; omega) ?_
    fail "sx"
    refine iteFI (by simp; omega) ?_
    fail "sx"
    apply k
    fail "sm"
theorem lessI {H : Hp} {Q : VK} {E : XK} {p q : Addr} {a b c d : Int} (h1 : SqL K H p [.int a, .int b]) (h2 : SqL K H q [.int c, .int d]) (ma : Sm a) (mb : Sm b) (mc : Sm c) (md : Sm d) (k : ∀ H' p a b, Same H H' → SqL K H' p [.int a, .int b] → H p = none → Q (.ref p) H') :
    spLess K [.ref p, .ref q, .int 0, .int 1] H Q E := ⟨⟨p, q, a, b, c, d, rfl, h1, h2, ma, mb, mc, md, k⟩⟩
structure spDet (K : PySem.W.Frag) (vs : List V) (H : Hp) (Q : VK) (E : XK) : Prop where
  ex : ∃ p r s a b c, vs = [.ref p] ∧ SqT K H p [.ref r, .ref s] ∧ SqT K H r [.int a, .int b] ∧ SqT K H s [.int b, .int c] ∧ a ≠ 0 ∧ a.natAbs ≤ 200000 ∧ b.natAbs ≤ 200000 ∧ c.natAbs ≤ 200000 ∧
    ∀ H' d, Same H H' → Q (.int d) H'
theorem ok_determinant (T : Tx K mg) (C_lessened : Cal P w K mg base 1 "lessened" ps_lessened (spLess K)) (F : FnP K "determinant" s_determinant f fd) : FnOk P w K mg base CX0 2 f fd ps_determinant (spDet K) := by
  refine F.ok sc_determinant (fun vs H Q E h => ?_) (fun cdv A outer s H vs Q E hr h => ?_)
  · obtain ⟨p, r, s, a, b, c, rfl, _⟩ := h
    rfl
  · obtain ⟨p, r, s, a, b, c, rfl, hp, hr', hs, a0, aa, bb, cc, k⟩ := h
    refine ⟨_, PSs.nox (pss_cons (ps_asg (pe_tup (pa_cons (pe_lc (own := [("row", 8)]) rfl sc_determinant.nd (k_pt (K := K) rfl (pv 0)) (blkOk_by (own := [("row", 8)]) (by kernel_rfl)) (fun _ _ _ _ _ => (pg_name (i := 8) sc_determinant.nd rfl (by first | exact Or.inl rfl | exact Or.inr rfl))) (fun _ _ _ _ _ => pts_nil) (fun _ _ _ _ _ => (pe_callTy (k_list (K := K) rfl) (by rfl) T.b_list (by decide +kernel) (pa_cons (pv 8) pa_nil)))) (pa_cons pe_int (pa_cons pe_int pa_nil)))) (k_tup (K := K) (n := 3) rfl (by rfl) (pgs_cons (pg_name (i := 2) sc_determinant.nd rfl (by first | exact Or.inl rfl | exact Or.inr rfl)) (pgs_cons (pg_name (i := 3) sc_determinant.nd rfl (by first | exact Or.inl rfl | exact Or.inr rfl)) (pgs_cons (pg_name (i := 4) sc_determinant.nd rfl (by first | exact Or.inl rfl | exact Or.inr rfl)) pgs_nil)))))
    (pss_cons (ps_for PassesOwn.never rfl (pi_range1 (by rfl) T.b_range (pa_cons (pe_op op_sub (pe_callB (k_len (K := K) rfl) (by rfl) T.b_len (by decide +kernel) (pa_cons (pv 2) pa_nil)) pe_int) pa_nil)) (pg_name (i := 1) sc_determinant.nd rfl (by first | exact Or.inl rfl | exact Or.inr rfl))
    (pss_cons (ps_setLc (i := 5) (own := [("index", 7)]) rfl sc_determinant.nd rfl rfl (sw_true rfl rfl rfl (by decide +kernel)) (pi_range2 (by rfl) T.b_range (pa_cons (pv 1) (pa_cons (pe_callB (k_len (K := K) rfl) (by rfl) T.b_len (by decide +kernel) (pa_cons (pv 2) pa_nil)) pa_nil))) (blkOk_by (own := [("index", 7)]) (by kernel_rfl)) (fun _ _ _ _ _ => (pg_name (i := 7) sc_determinant.nd rfl (by first | exact Or.inl rfl | exact Or.inr rfl))) (fun _ _ _ _ _ => pts_one (pt_cmpR op_ne (pe_ix (k_ixl (K := K) rfl) (pe_ix (k_ixl (K := K) rfl) (pv 2) (pv 7) (fun _ _ => rfl)) (pv 1) (fun _ _ => rfl)) pe_int (nomark _))) (fun _ _ _ _ _ => (pv 7)))
    (pss_cons (ps_if (pt_cmpR (k_eq (K := K) rfl hr.units) (pv 5) (pe_lst pa_nil) (nomark _))
    (pss_one (ps_ret pe_int))
    pss_nil)
    (pss_cons (ps_if (pt_cmpR op_ne (pe_ix (k_ixl (K := K) rfl) (pv 5) pe_int (fun _ _ => rfl)) (pv 1) (nomark _))
    (pss_cons ps_never
    (pss_one (ps_set (i := 3) sc_determinant.nd rfl (Or.inl rfl) (pe_un un_neg (pv 3)))))
    pss_nil)
    (pss_cons (ps_set (i := 6) sc_determinant.nd rfl (Or.inl rfl) (pe_ix (k_ixl (K := K) rfl) (pv 2) (pv 1) (fun _ _ => rfl)))
    (pss_cons (ps_for PassesOwn.never rfl (pi_range2 (by rfl) T.b_range (pa_cons (pe_op op_add (pv 1) pe_int) (pa_cons (pe_callB (k_len (K := K) rfl) (by rfl) T.b_len (by decide +kernel) (pa_cons (pv 2) pa_nil)) pa_nil))) (pg_name (i := 7) sc_determinant.nd rfl (by first | exact Or.inl rfl | exact Or.inr rfl))
    (pss_one (ps_asg (pe_cal C_lessened hr (pa_cons (pe_ix (k_ixl (K := K) rfl) (pv 2) (pv 7) (fun _ _ => rfl)) (pa_cons (pv 6) (pa_cons (pv 1) (pa_cons (pv 4) pa_nil))))) (pg_sub (pv 2) (pv 7) set_list))))
    (pss_one (ps_set (i := 4) sc_determinant.nd rfl (Or.inl rfl) (pe_ix (k_ixl (K := K) rfl) (pv 6) (pv 1) (fun _ _ => rfl))))))))))
    (pss_one (ps_ret (pe_op op_mul (pv 3) (pe_ix (k_ixl (K := K) rfl) (pe_ix (k_ixl (K := K) rfl) (pv 2) (pe_un un_neg pe_int) (fun _ _ => rfl)) (pe_un un_neg pe_int) (fun _ _ => rfl))))))), ?_⟩
    have ma : Sm a := ⟨by omega, by omega⟩
    have mb : Sm b := ⟨by omega, by omega⟩
    have mc : Sm c := ⟨by omega, by omega⟩
    have m1 : Sm 1 := ⟨by decide, by decide⟩
    fail "sx"
    refine iteN (fun _ => ?_) (fun h => absurd h a0)
    fail "sx"
    refine iteN (fun hb => ?_) (fun hb => ?_)
    · fail "sx"
      apply lessI
      fail "sl"
      fail "sl"
      exact mb
      exact mc
      exact ma
      exact mb
      fail "sx"
      apply k
      fail "sm"
    · fail "sx"
      apply lessI
      fail "sl"
      fail "sl"
      exact mb
      exact mc
      exact ma
      exact mb
      fail "sx"
      apply k
      fail "sm"
end
end G41
set_option Elab.async false
set_option linter.all false
set_option maxRecDepth 100000
set_option maxHeartbeats 4000000
namespace G41
open PySem PySem.Spec PyProof.Rows L2
local macro_rules | `(tactic| fail "rd1") => `(tactic| first
  | refine ⟨_, rfl, ?_⟩
  | refine ⟨_, _, rfl, rfl, ?_⟩
  | refine ⟨rfl, ?_⟩
  | refine ⟨_, _, rfl, ?_⟩
  | refine ⟨_, _, _, rfl, ?_⟩
  | fail)
local macro_rules | `(tactic| fail "rd") => `(tactic| repeat (fail "rd1"))
local macro_rules | `(tactic| fail "nn") => `(tactic| first
  | with_reducible assumption
  | (apply lkn; fail "ne"; fail "nn")
  | (apply none_same; with_reducible assumption; fail "sm"))
local macro_rules | `(tactic| fail "ne") => `(tactic| first
  | with_reducible assumption
  | exact (old_ne (by with_reducible assumption) (by with_reducible assumption)).1
  | exact (old_ne (by with_reducible assumption) (by with_reducible assumption)).2
  | (apply ne_new1; with_reducible assumption; fail "lk")
  | (apply ne_new2; with_reducible assumption; fail "lk"))
local macro_rules | `(tactic| fail "lk") => `(tactic| first
  | with_reducible assumption
  | exact upd_same
  | (apply lkn; fail "ne"; fail "lk")
  | (apply same_upd; with_reducible assumption; fail "lk"))
local macro_rules | `(tactic| fail "sm") => `(tactic| first
  | with_reducible assumption
  | exact Same.refl _
  | (apply same_mut; fail "sm"; fail "nn")
  | (apply trans_same; with_reducible assumption; fail "sm"))
local macro_rules | `(tactic| fail "sl") => `(tactic| first
  | with_reducible assumption
  | (apply lst_same; with_reducible assumption; fail "sm")
  | (apply SqL.of; fail "lk")
  | (apply lst_new; fail "nn"; fail "sl")
  | (apply lst_updn; fail "ne"; fail "sl")
  | (apply lst_trans; with_reducible assumption; fail "sl"))
local macro_rules | `(tactic| fail "st") => `(tactic| first
  | with_reducible assumption
  | (apply tup_same; with_reducible assumption; fail "sm")
  | (apply SqT.of; fail "lk")
  | (apply tup_new; fail "nn"; fail "st")
  | (apply tup_upd; fail "lk"; fail "st")
  | (apply tup_trans; with_reducible assumption; fail "st")
  | (apply tup_updI; fail "lk"; fail "st"))
local macro_rules | `(tactic| fail "nw") => `(tactic| (repeat (refine nwI (fun _ _ => ?_))); refine fun _ => ?_)
local macro_rules | `(tactic| fail "ln") => `(tactic| first
  | exact lenLt (Nat.le_of_ble_eq_true rfl)
  | exact Nat.le_of_ble_eq_true rfl)
local macro_rules | `(tactic| fail "un") => `(tactic| first
  | apply un_lcR
  | (refine un_lc2 2 ?_)
  | (apply un_lcL; fail "sl")
  | (apply un_lcT; fail "st")
  | (apply un_lcZ; fail "sl")
  | (apply un_lcZT; fail "st")
  | (apply un_lcZM; fail "sl"))
local macro_rules | `(tactic| fail "uf") => `(tactic| first
  | apply un_forR
  | (apply un_forL; fail "sl")
  | (apply un_forT; fail "st")
  | (apply un_forZ; fail "sl")
  | (apply un_forZT; fail "st")
  | (apply un_forZM; fail "sl")
  | (apply un_forE; fail "st"))
local macro_rules | `(tactic| fail "ns") => `(tactic| try simp only [wipe, L2.start, List.set_cons_zero, List.set_cons_succ, List.map_cons, List.map_nil, List.length_cons, List.length_nil, List.replicate_succ, List.replicate_zero, List.cons_append, List.nil_append, Nat.reduceAdd, Nat.reduceSub])
local macro_rules | `(tactic| fail "da") => `(tactic| first
  | exact DpAll.nil
  | (apply DpAll.cons; (first | exact Dp.int _ | (apply Dp.tup; fail "st"; fail "da") | (apply Dp.lst; fail "sl"; fail "da") | exact Dp.bl _ | exact Dp.str _); fail "da"))
local macro_rules | `(tactic| fail "dp") => `(tactic| first
  | exact Dp.int _
  | (apply Dp.tup; fail "st"; fail "da")
  | (apply Dp.lst; fail "sl"; fail "da"))
local macro_rules | `(tactic| fail "so") => `(tactic| first
  | (apply sx_upd; fail "so")
  | (apply sx_mut; fail "so"; fail "nn")
  | (apply sx_of; fail "sm"))
local macro_rules | `(tactic| fail "lg") => `(tactic| (refine PyProof.Rows.int_text_len_1921 (lg_small ?_); omega))
local macro_rules | `(tactic| fail "sx1") => `(tactic| (conv => whnf); first
  | (refine fun _ => ?_; fail "nw"; first | fail "un" | skip)
  | (refine fun _ => ?_)
  | (refine wipe_1 (by decide) ?_; fail "ns")
  | (refine wipe_2 (by decide) (by decide) ?_; fail "ns")
  | (refine ⟨_, rfl, ?_⟩)
  | (refine ⟨rfl, ?_⟩)
  | (refine ⟨_, _, rfl, rfl, ?_⟩)
  | (refine ⟨_, _, rfl, ?_⟩)
  | (refine ⟨_, _, _, rfl, ?_⟩)
  | apply un_forR
  | (apply un_forL; fail "sl")
  | (apply un_forT; fail "st")
  | (apply un_forZ; fail "sl")
  | (apply un_forZT; fail "st")
  | (apply un_forZM; fail "sl")
  | (apply un_forE; fail "st")
  | apply un_inR
  | (apply tyI; fail "sl")
  | (apply dpI; fail "dp"; fail "dp"; rfl; rfl)
  | (apply gtI; fail "st"; rfl)
  | apply isi_ii
  | apply isi_ib
  | (apply isi_tt; fail "st")
  | refine divN1 ?_
  | (apply nx_range; exact Nat.le_of_ble_eq_true rfl)
  | (apply nx_list; fail "sl"; rfl)
  | (apply nx_tup; fail "st"; rfl)
  | (apply nx_zip; fail "sl"; fail "sl"; rfl; rfl)
  | (apply nx_zipT; fail "st"; fail "st"; rfl; rfl)
  | (apply nx_zipM; fail "sl"; fail "st"; rfl; rfl)
  | (apply nx_enumT; fail "st"; rfl)
  | (apply st_range; fail "ln")
  | (apply st_list; fail "sl"; fail "ln")
  | (apply st_tup; fail "st"; fail "ln")
  | (apply st_zip; fail "sl"; fail "sl"; fail "ln")
  | (apply st_zipT; fail "st"; fail "st"; fail "ln")
  | (apply st_zipM; fail "sl"; fail "st"; rfl; rfl)
  | (apply st_enumT; fail "st"; rfl)
  | (apply mulR; with_reducible assumption)
  | (apply mulL; with_reducible assumption)
  | (apply accI; fail "lk"; fail "ln")
  | (apply apdI; fail "lk"; fail "ln")
  | (apply ixLI; fail "sl"; rfl)
  | (apply ixTI; fail "st"; rfl)
  | (apply setI; fail "lk"; rfl)
  | (apply slLI; fail "sl")
  | (apply sum2I; fail "sl")
  | (apply rep2I; fail "lk"; exact Nat.le_of_ble_eq_true rfl)
  | (refine And.intro (lg_small ?_) ?_; omega)
  | (apply joinI3; fail "sl"; fail "lg"; fail "lg"; fail "lg"; decide)
  | (apply enI; fail "st")
  | (apply enL; fail "sl")
  | (apply ppL; fail "sl")
  | (apply ppT; fail "st")
  | (apply pqL; fail "sl")
  | (apply pqT; fail "st")
  | (apply pzL; fail "sl"; fail "sl")
  | (apply pzT; fail "st"; fail "st")
  | (apply pzM; fail "sl"; fail "st")
  | (refine Or.inl ⟨_, rfl, ?_⟩)
  | (refine Or.inr ⟨_, rfl, ?_⟩)
  | (apply pxL; fail "sl")
  | (apply pxT; fail "st")
  | (refine iteTI rfl ?_)
  | (refine iteFI Bool.false_ne_true ?_)
  | (refine iteTI ?_ ?_; (simp [*]; done))
  | (refine iteFI ?_ ?_; (simp [*]; done))
  | (refine And.intro ?_ ?_; first | decide | (simp only [List.length_append, List.length_cons, List.length_nil]; decide)))
local macro_rules | `(tactic| fail "sx") => `(tactic| repeat (fail "sx1"))
local macro_rules | `(tactic| fail "tx1") => `(tactic| (conv => whnf); first
  | (refine fun _ => ?_; fail "nw")
  | (refine fun _ => ?_)
  | (refine wipe_1 (by decide) ?_; fail "ns")
  | (refine wipe_2 (by decide) (by decide) ?_; fail "ns")
  | (refine ⟨_, rfl, ?_⟩)
  | (refine ⟨rfl, ?_⟩)
  | (refine ⟨_, _, rfl, rfl, ?_⟩)
  | (refine ⟨_, _, rfl, ?_⟩)
  | (refine ⟨_, _, _, rfl, ?_⟩)
  | apply un_forR
  | (apply un_forL; fail "sl")
  | (apply un_forT; fail "st")
  | (apply un_forZ; fail "sl")
  | (apply un_forZT; fail "st")
  | (apply un_forZM; fail "sl")
  | (apply un_forE; fail "st")
  | apply un_inR
  | (apply tyI; fail "sl")
  | (apply dpI; fail "dp"; fail "dp"; rfl; rfl)
  | (apply gtI; fail "st"; rfl)
  | apply isi_ii
  | apply isi_ib
  | (apply isi_tt; fail "st")
  | refine divN1 ?_
  | (apply nx_range; exact Nat.le_of_ble_eq_true rfl)
  | (apply nx_list; fail "sl"; rfl)
  | (apply nx_tup; fail "st"; rfl)
  | (apply nx_zip; fail "sl"; fail "sl"; rfl; rfl)
  | (apply nx_zipT; fail "st"; fail "st"; rfl; rfl)
  | (apply nx_zipM; fail "sl"; fail "st"; rfl; rfl)
  | (apply nx_enumT; fail "st"; rfl)
  | (apply st_range; fail "ln")
  | (apply st_list; fail "sl"; fail "ln")
  | (apply st_tup; fail "st"; fail "ln")
  | (apply st_zip; fail "sl"; fail "sl"; fail "ln")
  | (apply st_zipT; fail "st"; fail "st"; fail "ln")
  | (apply st_zipM; fail "sl"; fail "st"; rfl; rfl)
  | (apply st_enumT; fail "st"; rfl)
  | (apply mulR; with_reducible assumption)
  | (apply mulL; with_reducible assumption)
  | (apply accI; fail "lk"; fail "ln")
  | (apply apdI; fail "lk"; fail "ln")
  | (apply ixLI; fail "sl"; rfl)
  | (apply ixTI; fail "st"; rfl)
  | (apply setI; fail "lk"; rfl)
  | (apply slLI; fail "sl")
  | (apply sum2I; fail "sl")
  | (apply rep2I; fail "lk"; exact Nat.le_of_ble_eq_true rfl)
  | (refine And.intro (lg_small ?_) ?_; omega)
  | (apply joinI3; fail "sl"; fail "lg"; fail "lg"; fail "lg"; decide)
  | (apply enI; fail "st")
  | (apply enL; fail "sl")
  | (apply ppL; fail "sl")
  | (apply ppT; fail "st")
  | (apply pqL; fail "sl")
  | (apply pqT; fail "st")
  | (apply pzL; fail "sl"; fail "sl")
  | (apply pzT; fail "st"; fail "st")
  | (apply pzM; fail "sl"; fail "st")
  | (refine Or.inl ⟨_, rfl, ?_⟩)
  | (refine Or.inr ⟨_, rfl, ?_⟩)
  | (apply pxL; fail "sl")
  | (apply pxT; fail "st")
  | (refine iteTI rfl ?_)
  | (refine iteFI Bool.false_ne_true ?_)
  | (refine iteTI ?_ ?_; (simp [*]; done))
  | (refine iteFI ?_ ?_; (simp [*]; done))
  | (refine And.intro ?_ ?_; first | decide | (simp only [List.length_append, List.length_cons, List.length_nil]; decide)))
local macro_rules | `(tactic| fail "tx") => `(tactic| repeat (fail "tx1"))
local macro_rules | `(tactic| fail "om") => `(tactic| first
  | omega
  | (dsimp only; omega)
  | (split <;> omega)
  | (dsimp only; split <;> omega))
local macro_rules | `(tactic| fail "bx1") => `(tactic| first
  | (refine iteD (fun _ => ?_) (fun _ => ?_))
  | (refine iteN (fun _ => ?_) (fun _ => ?_))
  | (refine iteE (fun _ => ?_) (fun _ => ?_))
  | (refine iteTI rfl ?_)
  | (refine iteFI Bool.false_ne_true ?_)
  | (refine ⟨_, rfl, ?_⟩)
  | (refine ⟨_, _, rfl, rfl, ?_⟩)
  | (refine ⟨rfl, ?_⟩)
  | (refine ⟨_, _, rfl, ?_⟩)
  | (apply mulR; with_reducible assumption)
  | (apply mulL; with_reducible assumption)
  | (apply mulL; refine ⟨?_, ?_⟩ <;> fail "om")
  | (apply powI; fail "om"))
local macro_rules | `(tactic| fail "bx") => `(tactic| repeat' (fail "bx1"))

section
variable {P : Program} {w : World} {K : PySem.W.Frag} {mg : Str → Option Value} {base : Heap} {f : Addr} {fd : FuncData}
structure spSig (K : PySem.W.Frag) (vs : List V) (H : Hp) (Q : VK) (E : XK) : Prop where
  ex : ∃ p r s a b c, vs = [.ref p] ∧ SqT K H p [.ref r, .ref s] ∧ SqT K H r [.int a, .int b] ∧ SqT K H s [.int b, .int c] ∧ a ≠ 0 ∧ a.natAbs ≤ 200000 ∧ b.natAbs ≤ 200000 ∧ c.natAbs ≤ 200000 ∧ a * c ≠ b * b ∧
    ∀ H' p x y, Same H H' → SqT K H' p [.int x, .int y] → Q (.ref p) H'
theorem diagI {H : Hp} {Q : VK} {E : XK} {p r s : Addr} {a b c : Int} (h1 : SqT K H p [.ref r, .ref s]) (h2 : SqT K H r [.int a, .int b]) (h3 : SqT K H s [.int b, .int c]) (a0 : a ≠ 0) (aa : a.natAbs ≤ 200000) (bb : b.natAbs ≤ 200000) (cc : c.natAbs ≤ 200000) (hd : a * c ≠ b * b)
    (k : ∀ H' p f g n d n2 d2, Same H H' → SqL K H' p [.ref f, .ref g] → SqT K H' f [.int n, .int d] → SqT K H' g [.int n2, .int d2] → Q (.ref p) H') : spDiag K [.ref p] H Q E := ⟨⟨p, r, s, a, b, c, rfl, h1, h2, h3, a0, aa, bb, cc, hd, k⟩⟩
theorem ok_signature_for (T : Tx K mg) (C_diagonal : Cal P w K mg base 4 "diagonal" ps_diagonal (spDiag K)) (F : FnP K "signature_for" s_signature_for f fd) : FnOk P w K mg base CX0 5 f fd ps_signature_for (spSig K) := by
  refine F.ok sc_signature_for (fun vs H Q E h => ?_) (fun cdv A outer s H vs Q E hr h => ?_)
  · obtain ⟨p, r, s, a, b, c, rfl, _⟩ := h
    rfl
  · obtain ⟨p, r, s, a, b, c, rfl, hp, hr', hs, a0, aa, bb, cc, hd, k⟩ := h
    refine ⟨_, PSs.nox (pss_cons (ps_set (i := 1) sc_signature_for.nd rfl (Or.inl rfl) (pe_cal C_diagonal hr (pa_cons (pv 0) pa_nil)))
    (pss_one (ps_ret (pe_tup (pa_cons (pe_callB (k_len (K := K) rfl) (by rfl) T.b_len (by decide +kernel) (pa_cons (pe_lc (own := [("one", 2)]) rfl sc_signature_for.nd (k_pl (K := K) rfl (pv 1)) (blkOk_by (own := [("one", 2)]) (by kernel_rfl)) (fun _ _ _ _ _ => (pg_name (i := 2) sc_signature_for.nd rfl (by first | exact Or.inl rfl | exact Or.inr rfl))) (fun _ _ _ _ _ => pts_one (pt_cmpR op_gt (pe_ix (k_ixt (K := K) rfl) (pv 2) pe_int (fun _ _ => rfl)) pe_int (nomark _))) (fun _ _ _ _ _ => (pv 2))) pa_nil)) (pa_cons (pe_callB (k_len (K := K) rfl) (by rfl) T.b_len (by decide +kernel) (pa_cons (pe_lc (own := [("one", 2)]) rfl sc_signature_for.nd (k_pl (K := K) rfl (pv 1)) (blkOk_by (own := [("one", 2)]) (by kernel_rfl)) (fun _ _ _ _ _ => (pg_name (i := 2) sc_signature_for.nd rfl (by first | exact Or.inl rfl | exact Or.inr rfl))) (fun _ _ _ _ _ => pts_one (pt_cmpR op_lt (pe_ix (k_ixt (K := K) rfl) (pv 2) pe_int (fun _ _ => rfl)) pe_int (nomark _))) (fun _ _ _ _ _ => (pv 2))) pa_nil)) pa_nil)))))), ?_⟩
    fail "sx"
    refine diagI hp hr' hs a0 aa bb cc hd ?_
    intro H1 q1 f1 g1 n d n2 d2 s1 hq hf1 hg1
    fail "sx"
    refine iteB (fun h1 => ?_) (fun h1 => ?_) <;> fail "sx" <;> refine iteB (fun h2 => ?_) (fun h2 => ?_) <;> fail "sx" <;> refine iteB (fun h3 => ?_) (fun h3 => ?_) <;> fail "sx" <;> refine iteB (fun h4 => ?_) (fun h4 => ?_) <;> fail "sx"
    all_goals apply k
    all_goals first | fail "sm" | fail "st"
end
end G41
set_option Elab.async false
set_option linter.all false
set_option maxRecDepth 100000
set_option maxHeartbeats 4000000
namespace G41
open PySem PySem.Spec PyProof.Rows L2
abbrev s_Form__init : Stmt := inClass (top 52) 0
abbrev nm_Form__init : List Str := ["self", "coefficients", "rows", "signature", "own"]
abbrev ps_Form__init : List Str := ["self", "coefficients"]
theorem sc_Form__init : FnScope nm_Form__init ps_Form__init (defScope s_Form__init) := ⟨rfl, rfl, rfl, by decide +kernel, rfl, by decide +kernel, by decide +kernel⟩
abbrev s_Form_coefficients : Stmt := inClass (top 52) 2
abbrev nm_Form_coefficients : List Str := ["self"]
abbrev ps_Form_coefficients : List Str := ["self"]
theorem sc_Form_coefficients : FnScope nm_Form_coefficients ps_Form_coefficients (defScope s_Form_coefficients) := ⟨rfl, rfl, rfl, by decide +kernel, rfl, by decide +kernel, by decide +kernel⟩
abbrev s_Form_content : Stmt := inClass (top 52) 8
abbrev nm_Form_content : List Str := ["self"]
abbrev ps_Form_content : List Str := ["self"]
theorem sc_Form_content : FnScope nm_Form_content ps_Form_content (defScope s_Form_content) := ⟨rfl, rfl, rfl, by decide +kernel, rfl, by decide +kernel, by decide +kernel⟩
abbrev s_Form__eq : Stmt := inClass (top 52) 16
abbrev nm_Form__eq : List Str := ["self", "other"]
abbrev ps_Form__eq : List Str := ["self", "other"]
theorem sc_Form__eq : FnScope nm_Form__eq ps_Form__eq (defScope s_Form__eq) := ⟨rfl, rfl, rfl, by decide +kernel, rfl, by decide +kernel, by decide +kernel⟩
/-- a method of a class -/
abbrev FnM (K : PySem.W.Frag) (x qual : Str) (st : Stmt) (f : Addr) (fd : FuncData) : Prop := FunD K x qual (defArgs st) (defBody st) (defScope st) [] [] f fd
/-- the class Form -/
structure FormF (K : PySem.W.Frag) (mg : Str → Option Value) (C : Addr) : Prop where
  cls : Cls K C
  nh : NoAttr K C "held"
  nw : NoAttr K C "words"
  nm : mg "Form" = some (.ref C)
/-- a Form of three coefficients -/
def FormAt (K : PySem.W.Frag) (C : Addr) (H : Hp) (f : Addr) (t : T3) : Prop := ∃ dx q w r p, H f = some (.ins C dx [("held", .ref q), ("words", .str w)]) ∧ SqT K H q (.ref p :: r) ∧ H p = some (.tup [.int t.1, .int t.2.1, .int t.2.2])
theorem form_same {K : PySem.W.Frag} {C f : Addr} {H H' : Hp} {t : T3} (h : FormAt K C H f t) (e : Same H H') : FormAt K C H' f t := by
  obtain ⟨dx, q, w, r, p, h1, h2, h3⟩ := h
  exact ⟨dx, q, w, r, p, e _ _ h1, same_tup e h2, e _ _ h3⟩
theorem sx_mut {o q : Addr} {H H1 : Hp} {v : HO} (h : SameX o H H1) (n : H q = none) : SameX o H (upd H1 q v) := fun b u nb hb => (upd_ne (ne_of_none hb n)).trans (h b u nb hb)
local macro_rules | `(tactic| fail "rd1") => `(tactic| first
  | refine ⟨_, rfl, ?_⟩
  | refine ⟨_, _, rfl, rfl, ?_⟩
  | refine ⟨rfl, ?_⟩
  | refine ⟨_, _, rfl, ?_⟩
  | refine ⟨_, _, _, rfl, ?_⟩
  | fail)
local macro_rules | `(tactic| fail "rd") => `(tactic| repeat (fail "rd1"))
local macro_rules | `(tactic| fail "nn") => `(tactic| first
  | with_reducible assumption
  | (apply lkn; fail "ne"; fail "nn")
  | (apply none_same; with_reducible assumption; fail "sm"))
local macro_rules | `(tactic| fail "ne") => `(tactic| first
  | with_reducible assumption
  | exact (old_ne (by with_reducible assumption) (by with_reducible assumption)).1
  | exact (old_ne (by with_reducible assumption) (by with_reducible assumption)).2
  | (apply ne_new1; with_reducible assumption; fail "lk")
  | (apply ne_new2; with_reducible assumption; fail "lk"))
local macro_rules | `(tactic| fail "lk") => `(tactic| first
  | with_reducible assumption
  | exact upd_same
  | (apply lkn; fail "ne"; fail "lk")
  | (apply same_upd; with_reducible assumption; fail "lk"))
local macro_rules | `(tactic| fail "sm") => `(tactic| first
  | with_reducible assumption
  | exact Same.refl _
  | (apply same_mut; fail "sm"; fail "nn")
  | (apply trans_same; with_reducible assumption; fail "sm"))
local macro_rules | `(tactic| fail "sl") => `(tactic| first
  | with_reducible assumption
  | (apply lst_same; with_reducible assumption; fail "sm")
  | (apply SqL.of; fail "lk")
  | (apply lst_new; fail "nn"; fail "sl")
  | (apply lst_updn; fail "ne"; fail "sl")
  | (apply lst_trans; with_reducible assumption; fail "sl"))
local macro_rules | `(tactic| fail "st") => `(tactic| first
  | with_reducible assumption
  | (apply tup_same; with_reducible assumption; fail "sm")
  | (apply SqT.of; fail "lk")
  | (apply tup_new; fail "nn"; fail "st")
  | (apply tup_upd; fail "lk"; fail "st")
  | (apply tup_trans; with_reducible assumption; fail "st")
  | (apply tup_updI; fail "lk"; fail "st"))
local macro_rules | `(tactic| fail "nw") => `(tactic| (repeat (refine nwI (fun _ _ => ?_))); refine fun _ => ?_)
local macro_rules | `(tactic| fail "ln") => `(tactic| first
  | exact lenLt (Nat.le_of_ble_eq_true rfl)
  | exact Nat.le_of_ble_eq_true rfl)
local macro_rules | `(tactic| fail "un") => `(tactic| first
  | apply un_lcR
  | (refine un_lc2 2 ?_)
  | (apply un_lcL; fail "sl")
  | (apply un_lcT; fail "st")
  | (apply un_lcZ; fail "sl")
  | (apply un_lcZT; fail "st")
  | (apply un_lcZM; fail "sl"))
local macro_rules | `(tactic| fail "uf") => `(tactic| first
  | apply un_forR
  | (apply un_forL; fail "sl")
  | (apply un_forT; fail "st")
  | (apply un_forZ; fail "sl")
  | (apply un_forZT; fail "st")
  | (apply un_forZM; fail "sl")
  | (apply un_forE; fail "st"))
local macro_rules | `(tactic| fail "ns") => `(tactic| try simp only [wipe, L2.start, List.set_cons_zero, List.set_cons_succ, List.map_cons, List.map_nil, List.length_cons, List.length_nil, List.replicate_succ, List.replicate_zero, List.cons_append, List.nil_append, Nat.reduceAdd, Nat.reduceSub])
local macro_rules | `(tactic| fail "da") => `(tactic| first
  | exact DpAll.nil
  | (apply DpAll.cons; (first | exact Dp.int _ | (apply Dp.tup; fail "st"; fail "da") | (apply Dp.lst; fail "sl"; fail "da") | exact Dp.bl _ | exact Dp.str _); fail "da"))
local macro_rules | `(tactic| fail "dp") => `(tactic| first
  | exact Dp.int _
  | (apply Dp.tup; fail "st"; fail "da")
  | (apply Dp.lst; fail "sl"; fail "da"))
local macro_rules | `(tactic| fail "so") => `(tactic| first
  | (apply sx_upd; fail "so")
  | (apply sx_mut; fail "so"; fail "nn")
  | (apply sx_of; fail "sm"))
local macro_rules | `(tactic| fail "lg") => `(tactic| (refine PyProof.Rows.int_text_len_1921 (lg_small ?_); omega))
local macro_rules | `(tactic| fail "sx1") => `(tactic| (conv => whnf); first
  | (refine fun _ => ?_; fail "nw"; first | fail "un" | skip)
  | (refine fun _ => ?_)
  | (refine wipe_1 (by decide) ?_; fail "ns")
  | (refine wipe_2 (by decide) (by decide) ?_; fail "ns")
  | (refine ⟨_, rfl, ?_⟩)
  | (refine ⟨rfl, ?_⟩)
  | (refine ⟨_, _, rfl, rfl, ?_⟩)
  | (refine ⟨_, _, rfl, ?_⟩)
  | (refine ⟨_, _, _, rfl, ?_⟩)
  | apply un_forR
  | (apply un_forL; fail "sl")
  | (apply un_forT; fail "st")
  | (apply un_forZ; fail "sl")
  | (apply un_forZT; fail "st")
  | (apply un_forZM; fail "sl")
  | (apply un_forE; fail "st")
  | apply un_inR
  | (apply tyI; fail "sl")
  | (apply dpI; fail "dp"; fail "dp"; rfl; rfl)
  | (apply gtI; fail "st"; rfl)
  | apply isi_ii
  | apply isi_ib
  | (apply isi_tt; fail "st")
  | refine divN1 ?_
  | (apply nx_range; exact Nat.le_of_ble_eq_true rfl)
  | (apply nx_list; fail "sl"; rfl)
  | (apply nx_tup; fail "st"; rfl)
  | (apply nx_zip; fail "sl"; fail "sl"; rfl; rfl)
  | (apply nx_zipT; fail "st"; fail "st"; rfl; rfl)
  | (apply nx_zipM; fail "sl"; fail "st"; rfl; rfl)
  | (apply nx_enumT; fail "st"; rfl)
  | (apply st_range; fail "ln")
  | (apply st_list; fail "sl"; fail "ln")
  | (apply st_tup; fail "st"; fail "ln")
  | (apply st_zip; fail "sl"; fail "sl"; fail "ln")
  | (apply st_zipT; fail "st"; fail "st"; fail "ln")
  | (apply st_zipM; fail "sl"; fail "st"; rfl; rfl)
  | (apply st_enumT; fail "st"; rfl)
  | (apply mulR; with_reducible assumption)
  | (apply mulL; with_reducible assumption)
  | (apply accI; fail "lk"; fail "ln")
  | (apply apdI; fail "lk"; fail "ln")
  | (apply ixLI; fail "sl"; rfl)
  | (apply ixTI; fail "st"; rfl)
  | (apply setI; fail "lk"; rfl)
  | (apply slLI; fail "sl")
  | (apply sum2I; fail "sl")
  | (apply rep2I; fail "lk"; exact Nat.le_of_ble_eq_true rfl)
  | (refine And.intro (lg_small ?_) ?_; omega)
  | (apply joinI3; fail "sl"; fail "lg"; fail "lg"; fail "lg"; decide)
  | (apply enI; fail "st")
  | (apply enL; fail "sl")
  | (apply ppL; fail "sl")
  | (apply ppT; fail "st")
  | (apply pqL; fail "sl")
  | (apply pqT; fail "st")
  | (apply pzL; fail "sl"; fail "sl")
  | (apply pzT; fail "st"; fail "st")
  | (apply pzM; fail "sl"; fail "st")
  | (refine Or.inl ⟨_, rfl, ?_⟩)
  | (refine Or.inr ⟨_, rfl, ?_⟩)
  | (apply pxL; fail "sl")
  | (apply pxT; fail "st")
  | (refine iteTI rfl ?_)
  | (refine iteFI Bool.false_ne_true ?_)
  | (refine iteTI ?_ ?_; (simp [*]; done))
  | (refine iteFI ?_ ?_; (simp [*]; done))
  | (refine And.intro ?_ ?_; first | decide | (simp only [List.length_append, List.length_cons, List.length_nil]; decide)))
local macro_rules | `(tactic| fail "sx") => `(tactic| repeat (fail "sx1"))
local macro_rules | `(tactic| fail "tx1") => `(tactic| (conv => whnf); first
  | (refine fun _ => ?_; fail "nw")
  | (refine fun _ => ?_)
  | (refine wipe_1 (by decide) ?_; fail "ns")
  | (refine wipe_2 (by decide) (by decide) ?_; fail "ns")
  | (refine ⟨_, rfl, ?_⟩)
  | (refine ⟨rfl, ?_⟩)
  | (refine ⟨_, _, rfl, rfl, ?_⟩)
  | (refine ⟨_, _, rfl, ?_⟩)
  | (refine ⟨_, _, _, rfl, ?_⟩)
  | apply un_forR
  | (apply un_forL; fail "sl")
  | (apply un_forT; fail "st")
  | (apply un_forZ; fail "sl")
  | (apply un_forZT; fail "st")
  | (apply un_forZM; fail "sl")
  | (apply un_forE; fail "st")
  | apply un_inR
  | (apply tyI; fail "sl")
  | (apply dpI; fail "dp"; fail "dp"; rfl; rfl)
  | (apply gtI; fail "st"; rfl)
  | apply isi_ii
  | apply isi_ib
  | (apply isi_tt; fail "st")
  | refine divN1 ?_
  | (apply nx_range; exact Nat.le_of_ble_eq_true rfl)
  | (apply nx_list; fail "sl"; rfl)
  | (apply nx_tup; fail "st"; rfl)
  | (apply nx_zip; fail "sl"; fail "sl"; rfl; rfl)
  | (apply nx_zipT; fail "st"; fail "st"; rfl; rfl)
  | (apply nx_zipM; fail "sl"; fail "st"; rfl; rfl)
  | (apply nx_enumT; fail "st"; rfl)
  | (apply st_range; fail "ln")
  | (apply st_list; fail "sl"; fail "ln")
  | (apply st_tup; fail "st"; fail "ln")
  | (apply st_zip; fail "sl"; fail "sl"; fail "ln")
  | (apply st_zipT; fail "st"; fail "st"; fail "ln")
  | (apply st_zipM; fail "sl"; fail "st"; rfl; rfl)
  | (apply st_enumT; fail "st"; rfl)
  | (apply mulR; with_reducible assumption)
  | (apply mulL; with_reducible assumption)
  | (apply accI; fail "lk"; fail "ln")
  | (apply apdI; fail "lk"; fail "ln")
  | (apply ixLI; fail "sl"; rfl)
  | (apply ixTI; fail "st"; rfl)
  | (apply setI; fail "lk"; rfl)
  | (apply slLI; fail "sl")
  | (apply sum2I; fail "sl")
  | (apply rep2I; fail "lk"; exact Nat.le_of_ble_eq_true rfl)
  | (refine And.intro (lg_small ?_) ?_; omega)
  | (apply joinI3; fail "sl"; fail "lg"; fail "lg"; fail "lg"; decide)
  | (apply enI; fail "st")
  | (apply enL; fail "sl")
  | (apply ppL; fail "sl")
  | (apply ppT; fail "st")
  | (apply pqL; fail "sl")
  | (apply pqT; fail "st")
  | (apply pzL; fail "sl"; fail "sl")
  | (apply pzT; fail "st"; fail "st")
  | (apply pzM; fail "sl"; fail "st")
  | (refine Or.inl ⟨_, rfl, ?_⟩)
  | (refine Or.inr ⟨_, rfl, ?_⟩)
  | (apply pxL; fail "sl")
  | (apply pxT; fail "st")
  | (refine iteTI rfl ?_)
  | (refine iteFI Bool.false_ne_true ?_)
  | (refine iteTI ?_ ?_; (simp [*]; done))
  | (refine iteFI ?_ ?_; (simp [*]; done))
  | (refine And.intro ?_ ?_; first | decide | (simp only [List.length_append, List.length_cons, List.length_nil]; decide)))
local macro_rules | `(tactic| fail "tx") => `(tactic| repeat (fail "tx1"))
local macro_rules | `(tactic| fail "om") => `(tactic| first
  | omega
  | (dsimp only; omega)
  | (split <;> omega)
  | (dsimp only; split <;> omega))
local macro_rules | `(tactic| fail "bx1") => `(tactic| first
  | (refine iteD (fun _ => ?_) (fun _ => ?_))
  | (refine iteN (fun _ => ?_) (fun _ => ?_))
  | (refine iteE (fun _ => ?_) (fun _ => ?_))
  | (refine iteTI rfl ?_)
  | (refine iteFI Bool.false_ne_true ?_)
  | (refine ⟨_, rfl, ?_⟩)
  | (refine ⟨_, _, rfl, rfl, ?_⟩)
  | (refine ⟨rfl, ?_⟩)
  | (refine ⟨_, _, rfl, ?_⟩)
  | (apply mulR; with_reducible assumption)
  | (apply mulL; with_reducible assumption)
  | (apply mulL; refine ⟨?_, ?_⟩ <;> fail "om")
  | (apply powI; fail "om"))
local macro_rules | `(tactic| fail "bx") => `(tactic| repeat' (fail "bx1"))

section
variable {P : Program} {w : World} {K : PySem.W.Frag} {mg : Str → Option Value} {base : Heap} {f : Addr} {fd : FuncData} {C : Addr}
structure spInit (K : PySem.W.Frag) (C : Addr) (vs : List V) (H : Hp) (Q : VK) (E : XK) : Prop where
  ex : ∃ o dx p a b c, vs = [.ref o, .ref p] ∧ H o = some (.ins C dx []) ∧ SqT K H p [.int a, .int b, .int c] ∧ a ≠ 0 ∧ a.natAbs ≤ 100000 ∧ b.natAbs ≤ 100000 ∧ c.natAbs ≤ 100000 ∧ 4 * a * c ≠ b * b ∧
    ∀ H' q w r, SameX o H H' → H' o = some (.ins C dx [("held", .ref q), ("words", .str w)]) → SqT K H' q (.ref p :: r) → SqT K H' p [.int a, .int b, .int c] → Q .non H'
theorem ok_init (T : Tx K mg) (CF : FormF K mg C) (C_check_coefficients : Cal P w K mg base 3 "check_coefficients" ps_check_coefficients (spChk K)) (C_table_for : Cal P w K mg base 2 "table_for" ps_table_for (spTable K))
    (C_signature_for : Cal P w K mg base 5 "signature_for" ps_signature_for (spSig K)) (C_determinant : Cal P w K mg base 2 "determinant" ps_determinant (spDet K))
    (C_kind_for : Cal P w K mg base 1 "kind_for" ps_kind_for (fun vs H Q _ => ∃ p m x y, vs = [.ref p, .int m] ∧ SqT K H p [.int x, .int y] ∧ ∀ z : Str, z.length ≤ 10 → Q (.str z) H))
    (F : FnM K "__init__" "Form.__init__" s_Form__init f fd) : FnOk P w K mg base CX0 6 f fd ps_Form__init (spInit K C) := by
  refine F.ok sc_Form__init (fun vs H Q E h => ?_) (fun cdv A outer s H vs Q E hr h => ?_)
  · obtain ⟨o, dx, p, a, b, c, rfl, _⟩ := h
    rfl
  · obtain ⟨o, dx, p, a, b, c, rfl, ho, hp, a0, aa, bb, cc, hd, k⟩ := h
    refine ⟨_, PSs.nox (pss_cons (ps_expr (pe_cal C_check_coefficients hr (pa_cons (pv 1) pa_nil)))
    (pss_cons (ps_set (i := 2) sc_Form__init.nd rfl (Or.inl rfl) (pe_cal C_table_for hr (pa_cons (pv 1) pa_nil)))
    (pss_cons (ps_set (i := 3) sc_Form__init.nd rfl (Or.inl rfl) (pe_cal C_signature_for hr (pa_cons (pv 2) pa_nil)))
    (pss_cons (ps_fld (pv 0) (pe_tup (pa_cons (pv 1) (pa_cons (pv 2) (pa_cons (pe_cal C_determinant hr (pa_cons (pv 2) pa_nil)) (pa_cons (pv 3) (pa_cons (pe_cal C_kind_for hr (pa_cons (pv 3) (pa_cons (pe_callB (k_len (K := K) rfl) (by rfl) T.b_len (by decide +kernel) (pa_cons (pv 2) pa_nil)) pa_nil))) pa_nil)))))) rfl)
    (pss_one (ps_fld (pv 0) (pe_bm PySem.F.plainAttrs_str PySem.F.slot_str_join PySem.F.type_str_join (k_join (K := K) rfl) pe_str (pa_cons (pe_lc (own := [("own", 4)]) rfl sc_Form__init.nd (k_pt (K := K) rfl (pv 1)) (blkOk_by (own := [("own", 4)]) (by kernel_rfl)) (fun _ _ _ _ _ => (pg_name (i := 4) sc_Form__init.nd rfl (by first | exact Or.inl rfl | exact Or.inr rfl))) (fun _ _ _ _ _ => pts_nil) (fun _ _ _ _ _ => (pe_callTy call_str_int (by rfl) T.b_str (by decide +kernel) (pa_cons (pv 4) pa_nil)))) pa_nil)) rfl)))))), ?_⟩
    fail "sx"
    refine ⟨⟨p, a, b, c, rfl, hp, by omega, by omega, by omega, fun H1 s1 => ?_⟩⟩
    fail "sx"
    refine ⟨⟨p, a, b, c, rfl, same_tup s1 hp, fun H2 q2 r2 t2 s2 hq2 hr2 ht2 => ?_⟩⟩
    fail "sx"
    refine ⟨⟨q2, r2, t2, _, _, _, rfl, hq2, hr2, ht2, by omega, by omega, by omega, by omega, by grind, fun H3 q3 x y s3 hq3 => ?_⟩⟩
    fail "sx"
    refine ⟨⟨q2, r2, t2, _, _, _, rfl, same_tup s3 hq2, same_tup s3 hr2, same_tup s3 ht2, by omega, by omega, by omega, by omega, fun H4 d s4 => ?_⟩⟩
    fail "sx"
    refine ⟨q3, _, x, y, rfl, same_tup s4 hq3, fun z hz => ?_⟩
    fail "sx"
    apply fldI
    fail "lk"
    exact CF.cls
    exact CF.nh
    decide
    fail "sx"
    apply fldI
    fail "lk"
    exact CF.cls
    exact CF.nw
    exact Nat.lt_of_lt_of_le (show 1 < 1000 by decide) (Nat.le_refl _)
    conv => whnf
    apply k
    fail "so"
    fail "lk"
    fail "st"
    fail "st"
end
end G41
set_option Elab.async false
set_option linter.all false
set_option maxRecDepth 100000
set_option maxHeartbeats 4000000
namespace G41
open PySem PySem.Spec PyProof.Rows L2
/-! Form(..) as an expression, its properties, its fields -/
structure MkF (P : Program) (w : World) (K : PySem.W.Frag) (mg : Str → Option Value) (base : Heap) (C : Addr) : Prop where
  nm : mg "Form" = some (.ref C)
  ex : ∃ f fd, Mk K C f ∧ FnOk P w K mg base CX0 6 f fd ps_Form__init (spInit K C) ∧ Binds K fd ps_Form__init []
/-- a form's coefficients, as they must be -/
def OkT (t : T3) : Prop := t.1 ≠ 0 ∧ t.1.natAbs ≤ 100000 ∧ t.2.1.natAbs ≤ 100000 ∧ t.2.2.natAbs ≤ 100000 ∧ 4 * t.1 * t.2.2 ≠ t.2.1 * t.2.1
/-- a tuple of three ints that was made since -/
abbrev TpAt (H : Hp) (p : Addr) (t : T3) : Prop := H p = some (.tup [.int t.1, .int t.2.1, .int t.2.2])
abbrev T3At (K : PySem.W.Frag) (H : Hp) (p : Addr) (t : T3) : Prop := SqT K H p [.int t.1, .int t.2.1, .int t.2.2]
def tForm (K : PySem.W.Frag) (C : Addr) (t : TA) : TE := fun σ H Q => t σ H fun vs H1 => ∃ p u, vs = [.ref p] ∧ TpAt H1 p u ∧ OkT u ∧ ∀ H' f, Same H1 H' → H1 f = none → FormAt K C H' f u → Q (.ref f) H'
section
variable {X : Cx} {C : Addr} {k j : Nat} {x : Str} {p pos : Pos} {e : Expr} {t : TA} {ta : TE}
theorem pe_form (M : MkF X.prog X.w X.K X.mg X.base C) (hr : Room j X.A) (ha : PA X [e] t) (hj : 7 ≤ j := by decide) (hg : Gl X "Form" := by rfl)
    (he : starEach [e] X.env = (false, eval e X.env) :: starEach [] X.env := by rfl) (hpl : (backTo pos (starEach [] X.env)).any (·.1) = false := by rfl) : PE X (.Call (.Name "Form" p) [e] [] pos) (tForm X.K C t) := by
  obtain ⟨hm, f, fd, M, F, b⟩ := M
  refine ⟨fun pins s σ H Q I h => ?_⟩
  refine wpAny_Call_Name_kw (ld_glob I hg hm ?_ (by decide))
  refine PySem.W.callWith_K (h₀ := X.base) I.ok.mod.kin M.kp (thn (ha.run pos pins s σ H _ I h) fun us s1 ⟨vs, H1, I1, r, q⟩ => ⟨I1.kIn, ?_⟩) he hpl
  obtain ⟨p0, u, rfl, hp, ⟨h0, h1, h2, h3, h4⟩, q⟩ := q
  refine run_make (E := E0) (dvs := []) M F (hr.mono hj) b .nil pass0 I1 r fun o dx ho hdx hne => ?_
  have n1 : Same H1 (upd (upd H1 dx (.own o)) o (.ins C dx [])) := (same_new hdx).trans (same_new (by rw [upd_ne hne.symm]; exact ho))
  refine ⟨⟨o, dx, p0, u.1, u.2.1, u.2.2, rfl, upd_same, same_tup n1 (SqT.of hp), h0, h1, h2, h3, h4, fun H' q0 w r s hins hq hp' => ⟨rfl, ?_⟩⟩⟩
  refine q H' o (fun b v hb => s b v (ne_of_none hb ho) (n1 b v hb)) ho ⟨dx, q0, w, r, p0, hins, hq, s _ _ (ne_of_none hp ho) (n1 _ _ hp)⟩
/-- a property of the class -/
structure PrpF (P : Program) (w : World) (K : PySem.W.Frag) (mg : Str → Option Value) (base : Heap) (C : Addr) (x : Str) (k : Nat) (ps : List Str) (sp : Sp) : Prop where
  cls : Cls K C
  ex : ∃ p g fd, PropOf K C x p g ∧ FnOk P w K mg base CX0 k g fd ps sp ∧ Binds K fd ps []
theorem pe_prp {ps : List Str} {sp : Sp} (M : PrpF X.prog X.w X.K X.mg X.base C x k ps sp) (hr : Room j X.A) (he : PE X e ta) (hj : k + 1 ≤ j := by decide)
    (hab : attributeBase e x X.env (eval e X.env) = eval e X.env := by rfl) : PE X (.Attribute e x pos) (tProp C sp [] E0 ta) := by
  obtain ⟨c, p, g, fd, hp, F, b⟩ := M
  exact pe_prop he c hp F (hr.mono hj) b .nil pass0 hab
theorem k_fld {K : PySem.W.Frag} (h : X.K = K) (he : PE X e ta) (hab : attributeBase e x X.env (eval e X.env) = eval e X.env := by rfl) : PE X (.Attribute e x pos) (tFld K ta x) := h ▸ pe_fld he hab
end
section
variable {K : PySem.W.Frag} {H : Hp} {C a : Addr} {t : T3}
theorem prI {Q : VK} {E : XK} {sp : Sp} (h : FormAt K C H a t) (q : sp [.ref a] H Q E) : ∃ b dx fs, V.ref a = V.ref b ∧ H b = some (.ins C dx fs) ∧ sp (.ref b :: []) H Q E := by
  obtain ⟨dx, q0, w, r, p, h1, h2⟩ := h
  exact ⟨a, dx, _, rfl, h1, q⟩
theorem fgI {C dx : Addr} {fs : List (Str × V)} {f : Str} {v : V} {P : Addr → Addr → Addr → List (Str × V) → V → Prop} (h : H a = some (.ins C dx fs)) (c : Cls K C) (n : NoAttr K C f) (l : fs.lookup f = some v) (q : P a C dx fs v) :
    ∃ b C dx fs v, V.ref a = V.ref b ∧ H b = some (.ins C dx fs) ∧ Cls K C ∧ NoAttr K C f ∧ fs.lookup f = some v ∧ P b C dx fs v := ⟨a, C, dx, fs, v, rfl, h, c, n, l, q⟩
end
structure spCoef (K : PySem.W.Frag) (C : Addr) (vs : List V) (H : Hp) (Q : VK) (E : XK) : Prop where
  ex : ∃ a t, vs = [.ref a] ∧ FormAt K C H a t ∧ ∀ p, TpAt H p t → Q (.ref p) H
structure spCont (K : PySem.W.Frag) (C : Addr) (vs : List V) (H : Hp) (Q : VK) (E : XK) : Prop where
  ex : ∃ a t, vs = [.ref a] ∧ FormAt K C H a t ∧ ∀ H', Same H H' → Q (.int (gcd3 t : Nat)) H'
theorem prCoef {K : PySem.W.Frag} {H : Hp} {C a : Addr} {t : T3} {Q : VK} {E : XK} (h : FormAt K C H a t) (q : ∀ p, T3At K H p t → Q (.ref p) H) : ∃ b dx fs, V.ref a = V.ref b ∧ H b = some (.ins C dx fs) ∧ spCoef K C (.ref b :: []) H Q E := prI h ⟨⟨a, t, rfl, h, fun p hp => q p (SqT.of hp)⟩⟩
theorem prCoefT {K : PySem.W.Frag} {H : Hp} {C a : Addr} {t : T3} {Q : VK} {E : XK} (h : FormAt K C H a t) (q : ∀ p, TpAt H p t → Q (.ref p) H) : ∃ b dx fs, V.ref a = V.ref b ∧ H b = some (.ins C dx fs) ∧ spCoef K C (.ref b :: []) H Q E := prI h ⟨⟨a, t, rfl, h, q⟩⟩
theorem prCont {K : PySem.W.Frag} {H : Hp} {C a : Addr} {t : T3} {Q : VK} {E : XK} (h : FormAt K C H a t) (q : ∀ H', Same H H' → Q (.int (gcd3 t : Nat)) H') : ∃ b dx fs, V.ref a = V.ref b ∧ H b = some (.ins C dx fs) ∧ spCont K C (.ref b :: []) H Q E := prI h ⟨⟨a, t, rfl, h, q⟩⟩
end G41
set_option Elab.async false
set_option linter.all false
set_option maxRecDepth 100000
set_option maxHeartbeats 4000000
namespace G41
open PySem PySem.Spec PyProof.Rows L2
theorem at0 {x : V} {r : List V} : atI (x :: r) 0 = some x := by
  simp [atI, ixN]
local macro_rules | `(tactic| fail "rd1") => `(tactic| first
  | refine ⟨_, rfl, ?_⟩
  | refine ⟨_, _, rfl, rfl, ?_⟩
  | refine ⟨rfl, ?_⟩
  | refine ⟨_, _, rfl, ?_⟩
  | refine ⟨_, _, _, rfl, ?_⟩
  | fail)
local macro_rules | `(tactic| fail "rd") => `(tactic| repeat (fail "rd1"))
local macro_rules | `(tactic| fail "nn") => `(tactic| first
  | with_reducible assumption
  | (apply lkn; fail "ne"; fail "nn")
  | (apply none_same; with_reducible assumption; fail "sm"))
local macro_rules | `(tactic| fail "ne") => `(tactic| first
  | with_reducible assumption
  | exact (old_ne (by with_reducible assumption) (by with_reducible assumption)).1
  | exact (old_ne (by with_reducible assumption) (by with_reducible assumption)).2
  | (apply ne_new1; with_reducible assumption; fail "lk")
  | (apply ne_new2; with_reducible assumption; fail "lk"))
local macro_rules | `(tactic| fail "lk") => `(tactic| first
  | with_reducible assumption
  | exact upd_same
  | (apply lkn; fail "ne"; fail "lk")
  | (apply same_upd; with_reducible assumption; fail "lk"))
local macro_rules | `(tactic| fail "sm") => `(tactic| first
  | with_reducible assumption
  | exact Same.refl _
  | (apply same_mut; fail "sm"; fail "nn")
  | (apply trans_same; with_reducible assumption; fail "sm"))
local macro_rules | `(tactic| fail "sl") => `(tactic| first
  | with_reducible assumption
  | (apply lst_same; with_reducible assumption; fail "sm")
  | (apply SqL.of; fail "lk")
  | (apply lst_new; fail "nn"; fail "sl")
  | (apply lst_updn; fail "ne"; fail "sl")
  | (apply lst_trans; with_reducible assumption; fail "sl"))
local macro_rules | `(tactic| fail "st") => `(tactic| first
  | with_reducible assumption
  | (apply tup_same; with_reducible assumption; fail "sm")
  | (apply SqT.of; fail "lk")
  | (apply tup_new; fail "nn"; fail "st")
  | (apply tup_upd; fail "lk"; fail "st")
  | (apply tup_trans; with_reducible assumption; fail "st")
  | (apply tup_updI; fail "lk"; fail "st"))
local macro_rules | `(tactic| fail "nw") => `(tactic| (repeat (refine nwI (fun _ _ => ?_))); refine fun _ => ?_)
local macro_rules | `(tactic| fail "ln") => `(tactic| first
  | exact lenLt (Nat.le_of_ble_eq_true rfl)
  | exact Nat.le_of_ble_eq_true rfl)
local macro_rules | `(tactic| fail "un") => `(tactic| first
  | apply un_lcR
  | (refine un_lc2 2 ?_)
  | (apply un_lcL; fail "sl")
  | (apply un_lcT; fail "st")
  | (apply un_lcZ; fail "sl")
  | (apply un_lcZT; fail "st")
  | (apply un_lcZM; fail "sl"))
local macro_rules | `(tactic| fail "uf") => `(tactic| first
  | apply un_forR
  | (apply un_forL; fail "sl")
  | (apply un_forT; fail "st")
  | (apply un_forZ; fail "sl")
  | (apply un_forZT; fail "st")
  | (apply un_forZM; fail "sl")
  | (apply un_forE; fail "st"))
local macro_rules | `(tactic| fail "ns") => `(tactic| try simp only [wipe, L2.start, List.set_cons_zero, List.set_cons_succ, List.map_cons, List.map_nil, List.length_cons, List.length_nil, List.replicate_succ, List.replicate_zero, List.cons_append, List.nil_append, Nat.reduceAdd, Nat.reduceSub])
local macro_rules | `(tactic| fail "da") => `(tactic| first
  | exact DpAll.nil
  | (apply DpAll.cons; (first | exact Dp.int _ | (apply Dp.tup; fail "st"; fail "da") | (apply Dp.lst; fail "sl"; fail "da") | exact Dp.bl _ | exact Dp.str _); fail "da"))
local macro_rules | `(tactic| fail "dp") => `(tactic| first
  | exact Dp.int _
  | (apply Dp.tup; fail "st"; fail "da")
  | (apply Dp.lst; fail "sl"; fail "da"))
local macro_rules | `(tactic| fail "so") => `(tactic| first
  | (apply sx_upd; fail "so")
  | (apply sx_mut; fail "so"; fail "nn")
  | (apply sx_of; fail "sm"))
local macro_rules | `(tactic| fail "lg") => `(tactic| (refine PyProof.Rows.int_text_len_1921 (lg_small ?_); omega))
local macro_rules | `(tactic| fail "sx1") => `(tactic| (conv => whnf); first
  | (refine fun _ => ?_; fail "nw"; first | fail "un" | skip)
  | (refine fun _ => ?_)
  | (refine wipe_1 (by decide) ?_; fail "ns")
  | (refine wipe_2 (by decide) (by decide) ?_; fail "ns")
  | (refine ⟨_, rfl, ?_⟩)
  | (refine ⟨rfl, ?_⟩)
  | (refine ⟨_, _, rfl, rfl, ?_⟩)
  | (refine ⟨_, _, rfl, ?_⟩)
  | (refine ⟨_, _, _, rfl, ?_⟩)
  | apply un_forR
  | (apply un_forL; fail "sl")
  | (apply un_forT; fail "st")
  | (apply un_forZ; fail "sl")
  | (apply un_forZT; fail "st")
  | (apply un_forZM; fail "sl")
  | (apply un_forE; fail "st")
  | apply un_inR
  | (apply tyI; fail "sl")
  | (apply dpI; fail "dp"; fail "dp"; rfl; rfl)
  | (apply gtI; fail "st"; rfl)
  | apply isi_ii
  | apply isi_ib
  | (apply isi_tt; fail "st")
  | refine divN1 ?_
  | (apply nx_range; exact Nat.le_of_ble_eq_true rfl)
  | (apply nx_list; fail "sl"; rfl)
  | (apply nx_tup; fail "st"; rfl)
  | (apply nx_zip; fail "sl"; fail "sl"; rfl; rfl)
  | (apply nx_zipT; fail "st"; fail "st"; rfl; rfl)
  | (apply nx_zipM; fail "sl"; fail "st"; rfl; rfl)
  | (apply nx_enumT; fail "st"; rfl)
  | (apply st_range; fail "ln")
  | (apply st_list; fail "sl"; fail "ln")
  | (apply st_tup; fail "st"; fail "ln")
  | (apply st_zip; fail "sl"; fail "sl"; fail "ln")
  | (apply st_zipT; fail "st"; fail "st"; fail "ln")
  | (apply st_zipM; fail "sl"; fail "st"; rfl; rfl)
  | (apply st_enumT; fail "st"; rfl)
  | (apply mulR; with_reducible assumption)
  | (apply mulL; with_reducible assumption)
  | (apply accI; fail "lk"; fail "ln")
  | (apply apdI; fail "lk"; fail "ln")
  | (apply ixLI; fail "sl"; rfl)
  | (apply ixTI; fail "st"; rfl)
  | (apply setI; fail "lk"; rfl)
  | (apply slLI; fail "sl")
  | (apply sum2I; fail "sl")
  | (apply rep2I; fail "lk"; exact Nat.le_of_ble_eq_true rfl)
  | (refine And.intro (lg_small ?_) ?_; omega)
  | (apply joinI3; fail "sl"; fail "lg"; fail "lg"; fail "lg"; decide)
  | (apply enI; fail "st")
  | (apply enL; fail "sl")
  | (apply ppL; fail "sl")
  | (apply ppT; fail "st")
  | (apply pqL; fail "sl")
  | (apply pqT; fail "st")
  | (apply pzL; fail "sl"; fail "sl")
  | (apply pzT; fail "st"; fail "st")
  | (apply pzM; fail "sl"; fail "st")
  | (refine Or.inl ⟨_, rfl, ?_⟩)
  | (refine Or.inr ⟨_, rfl, ?_⟩)
  | (apply pxL; fail "sl")
  | (apply pxT; fail "st")
  | (refine iteTI rfl ?_)
  | (refine iteFI Bool.false_ne_true ?_)
  | (refine iteTI ?_ ?_; (simp [*]; done))
  | (refine iteFI ?_ ?_; (simp [*]; done))
  | (refine And.intro ?_ ?_; first | decide | (simp only [List.length_append, List.length_cons, List.length_nil]; decide)))
local macro_rules | `(tactic| fail "sx") => `(tactic| repeat (fail "sx1"))
local macro_rules | `(tactic| fail "tx1") => `(tactic| (conv => whnf); first
  | (refine fun _ => ?_; fail "nw")
  | (refine fun _ => ?_)
  | (refine wipe_1 (by decide) ?_; fail "ns")
  | (refine wipe_2 (by decide) (by decide) ?_; fail "ns")
  | (refine ⟨_, rfl, ?_⟩)
  | (refine ⟨rfl, ?_⟩)
  | (refine ⟨_, _, rfl, rfl, ?_⟩)
  | (refine ⟨_, _, rfl, ?_⟩)
  | (refine ⟨_, _, _, rfl, ?_⟩)
  | apply un_forR
  | (apply un_forL; fail "sl")
  | (apply un_forT; fail "st")
  | (apply un_forZ; fail "sl")
  | (apply un_forZT; fail "st")
  | (apply un_forZM; fail "sl")
  | (apply un_forE; fail "st")
  | apply un_inR
  | (apply tyI; fail "sl")
  | (apply dpI; fail "dp"; fail "dp"; rfl; rfl)
  | (apply gtI; fail "st"; rfl)
  | apply isi_ii
  | apply isi_ib
  | (apply isi_tt; fail "st")
  | refine divN1 ?_
  | (apply nx_range; exact Nat.le_of_ble_eq_true rfl)
  | (apply nx_list; fail "sl"; rfl)
  | (apply nx_tup; fail "st"; rfl)
  | (apply nx_zip; fail "sl"; fail "sl"; rfl; rfl)
  | (apply nx_zipT; fail "st"; fail "st"; rfl; rfl)
  | (apply nx_zipM; fail "sl"; fail "st"; rfl; rfl)
  | (apply nx_enumT; fail "st"; rfl)
  | (apply st_range; fail "ln")
  | (apply st_list; fail "sl"; fail "ln")
  | (apply st_tup; fail "st"; fail "ln")
  | (apply st_zip; fail "sl"; fail "sl"; fail "ln")
  | (apply st_zipT; fail "st"; fail "st"; fail "ln")
  | (apply st_zipM; fail "sl"; fail "st"; rfl; rfl)
  | (apply st_enumT; fail "st"; rfl)
  | (apply mulR; with_reducible assumption)
  | (apply mulL; with_reducible assumption)
  | (apply accI; fail "lk"; fail "ln")
  | (apply apdI; fail "lk"; fail "ln")
  | (apply ixLI; fail "sl"; rfl)
  | (apply ixTI; fail "st"; rfl)
  | (apply setI; fail "lk"; rfl)
  | (apply slLI; fail "sl")
  | (apply sum2I; fail "sl")
  | (apply rep2I; fail "lk"; exact Nat.le_of_ble_eq_true rfl)
  | (refine And.intro (lg_small ?_) ?_; omega)
  | (apply joinI3; fail "sl"; fail "lg"; fail "lg"; fail "lg"; decide)
  | (apply enI; fail "st")
  | (apply enL; fail "sl")
  | (apply ppL; fail "sl")
  | (apply ppT; fail "st")
  | (apply pqL; fail "sl")
  | (apply pqT; fail "st")
  | (apply pzL; fail "sl"; fail "sl")
  | (apply pzT; fail "st"; fail "st")
  | (apply pzM; fail "sl"; fail "st")
  | (refine Or.inl ⟨_, rfl, ?_⟩)
  | (refine Or.inr ⟨_, rfl, ?_⟩)
  | (apply pxL; fail "sl")
  | (apply pxT; fail "st")
  | (refine iteTI rfl ?_)
  | (refine iteFI Bool.false_ne_true ?_)
  | (refine iteTI ?_ ?_; (simp [*]; done))
  | (refine iteFI ?_ ?_; (simp [*]; done))
  | (refine And.intro ?_ ?_; first | decide | (simp only [List.length_append, List.length_cons, List.length_nil]; decide)))
local macro_rules | `(tactic| fail "tx") => `(tactic| repeat (fail "tx1"))
local macro_rules | `(tactic| fail "om") => `(tactic| first
  | omega
  | (dsimp only; omega)
  | (split <;> omega)
  | (dsimp only; split <;> omega))
local macro_rules | `(tactic| fail "bx1") => `(tactic| first
  | (refine iteD (fun _ => ?_) (fun _ => ?_))
  | (refine iteN (fun _ => ?_) (fun _ => ?_))
  | (refine iteE (fun _ => ?_) (fun _ => ?_))
  | (refine iteTI rfl ?_)
  | (refine iteFI Bool.false_ne_true ?_)
  | (refine ⟨_, rfl, ?_⟩)
  | (refine ⟨_, _, rfl, rfl, ?_⟩)
  | (refine ⟨rfl, ?_⟩)
  | (refine ⟨_, _, rfl, ?_⟩)
  | (apply mulR; with_reducible assumption)
  | (apply mulL; with_reducible assumption)
  | (apply mulL; refine ⟨?_, ?_⟩ <;> fail "om")
  | (apply powI; fail "om"))
local macro_rules | `(tactic| fail "bx") => `(tactic| repeat' (fail "bx1"))

section
variable {P : Program} {w : World} {K : PySem.W.Frag} {mg : Str → Option Value} {base : Heap} {f : Addr} {fd : FuncData} {C : Addr}
theorem ok_coefficients (T : Tx K mg) (CF : FormF K mg C) (F : FnM K "coefficients" "Form.coefficients" s_Form_coefficients f fd) : FnOk P w K mg base CX0 1 f fd ps_Form_coefficients (spCoef K C) := by
  refine F.ok sc_Form_coefficients (fun vs H Q E h => ?_) (fun cdv A outer s H vs Q E hr h => ?_)
  · obtain ⟨a, t, rfl, _⟩ := h
    rfl
  · obtain ⟨a, t, rfl, ⟨dx, q, w, r, p, h1, h2, h3⟩, k⟩ := h
    refine ⟨_, PSs.nox (pss_one (ps_ret (pe_ix (k_ixt (K := K) rfl) (k_fld (K := K) rfl (pv 0)) pe_int (fun _ _ => rfl)))), ?_⟩
    fail "sx"
    refine fgI h1 CF.cls CF.nh rfl ?_
    fail "sx"
    refine ⟨q, _, 0, _, rfl, rfl, h2, at0, ?_⟩
    exact k p h3
theorem ok_content (T : Tx K mg) (CF : FormF K mg C) (C_common_of : Cal P w K mg base 2 "common_of" ps_common_of (spGcd3 K)) (F : FnM K "content" "Form.content" s_Form_content f fd) : FnOk P w K mg base CX0 3 f fd ps_Form_content (spCont K C) := by
  refine F.ok sc_Form_content (fun vs H Q E h => ?_) (fun cdv A outer s H vs Q E hr h => ?_)
  · obtain ⟨a, t, rfl, _⟩ := h
    rfl
  · obtain ⟨a, t, rfl, ⟨dx, q, w, r, p, h1, h2, h3⟩, k⟩ := h
    refine ⟨_, PSs.nox (pss_one (ps_ret (pe_cal C_common_of hr (pa_cons (pe_ix (k_ixt (K := K) rfl) (k_fld (K := K) rfl (pv 0)) pe_int (fun _ _ => rfl)) pa_nil)))), ?_⟩
    fail "sx"
    refine fgI h1 CF.cls CF.nh rfl ?_
    fail "sx"
    refine ⟨q, _, 0, _, rfl, rfl, h2, at0, ?_⟩
    exact ⟨p, t, rfl, SqT.of h3, k⟩
end
end G41
set_option Elab.async false
set_option linter.all false
set_option maxRecDepth 100000
set_option maxHeartbeats 4000000
namespace G41
open PySem PySem.Spec PyProof.Rows L2
abbrev s_discriminant_for : Stmt := top 55
abbrev nm_discriminant_for : List Str := ["form", "a", "b", "c"]
abbrev ps_discriminant_for : List Str := ["form"]
theorem sc_discriminant_for : FnScope nm_discriminant_for ps_discriminant_for (defScope s_discriminant_for) := ⟨rfl, rfl, rfl, by decide +kernel, rfl, by decide +kernel, by decide +kernel⟩
abbrev s_is_reduced_form : Stmt := top 56
abbrev nm_is_reduced_form : List Str := ["form", "whole", "less", "a", "b", "c"]
abbrev ps_is_reduced_form : List Str := ["form"]
theorem sc_is_reduced_form : FnScope nm_is_reduced_form ps_is_reduced_form (defScope s_is_reduced_form) := ⟨rfl, rfl, rfl, by decide +kernel, rfl, by decide +kernel, by decide +kernel⟩
abbrev s_is_discriminant : Stmt := top 54
abbrev nm_is_discriminant : List Str := ["value"]
abbrev ps_is_discriminant : List Str := ["value"]
theorem sc_is_discriminant : FnScope nm_is_discriminant ps_is_discriminant (defScope s_is_discriminant) := ⟨rfl, rfl, rfl, by decide +kernel, rfl, by decide +kernel, by decide +kernel⟩
abbrev s_check_discriminant : Stmt := top 63
abbrev nm_check_discriminant : List Str := ["value"]
abbrev ps_check_discriminant : List Str := ["value"]
theorem sc_check_discriminant : FnScope nm_check_discriminant ps_check_discriminant (defScope s_check_discriminant) := ⟨rfl, rfl, rfl, by decide +kernel, rfl, by decide +kernel, by decide +kernel⟩
theorem blI {Q : VK} {H : Hp} {x y : Bool} (k : Q (.bl x) H) (e : y = x) : Q (.bl y) H := e ▸ k
/-- what the bounds of coefficients ask -/
def Sml (t : T3) : Prop := t.1.natAbs ≤ 100000 ∧ t.2.1.natAbs ≤ 100000 ∧ t.2.2.natAbs ≤ 100000
structure spDsc (K : PySem.W.Frag) (C : Addr) (vs : List V) (H : Hp) (Q : VK) (E : XK) : Prop where
  ex : ∃ a t, vs = [.ref a] ∧ FormAt K C H a t ∧ Sml t ∧ Q (.int (dsc t)) H
structure spRed (K : PySem.W.Frag) (C : Addr) (vs : List V) (H : Hp) (Q : VK) (E : XK) : Prop where
  ex : ∃ a t, vs = [.ref a] ∧ FormAt K C H a t ∧ Sml t ∧ Q (.bl (redM t)) H
theorem sq2 (x : Int) : x ^ (Int.toNat 2) = x * x := by
  show x ^ 2 = _
  rw [Int.pow_succ, Int.pow_succ, Int.pow_zero, Int.one_mul]
theorem powI {i : Int} {P : Prop} (h : i.natAbs < 2 ^ 64) (q : P) : CPow i 2 ∧ P := ⟨⟨by decide, by decide, h⟩, q⟩
local macro_rules | `(tactic| fail "rd1") => `(tactic| first
  | refine ⟨_, rfl, ?_⟩
  | refine ⟨_, _, rfl, rfl, ?_⟩
  | refine ⟨rfl, ?_⟩
  | refine ⟨_, _, rfl, ?_⟩
  | refine ⟨_, _, _, rfl, ?_⟩
  | fail)
local macro_rules | `(tactic| fail "rd") => `(tactic| repeat (fail "rd1"))
local macro_rules | `(tactic| fail "nn") => `(tactic| first
  | with_reducible assumption
  | (apply lkn; fail "ne"; fail "nn")
  | (apply none_same; with_reducible assumption; fail "sm"))
local macro_rules | `(tactic| fail "ne") => `(tactic| first
  | with_reducible assumption
  | exact (old_ne (by with_reducible assumption) (by with_reducible assumption)).1
  | exact (old_ne (by with_reducible assumption) (by with_reducible assumption)).2
  | (apply ne_new1; with_reducible assumption; fail "lk")
  | (apply ne_new2; with_reducible assumption; fail "lk"))
local macro_rules | `(tactic| fail "lk") => `(tactic| first
  | with_reducible assumption
  | exact upd_same
  | (apply lkn; fail "ne"; fail "lk")
  | (apply same_upd; with_reducible assumption; fail "lk"))
local macro_rules | `(tactic| fail "sm") => `(tactic| first
  | with_reducible assumption
  | exact Same.refl _
  | (apply same_mut; fail "sm"; fail "nn")
  | (apply trans_same; with_reducible assumption; fail "sm"))
local macro_rules | `(tactic| fail "sl") => `(tactic| first
  | with_reducible assumption
  | (apply lst_same; with_reducible assumption; fail "sm")
  | (apply SqL.of; fail "lk")
  | (apply lst_new; fail "nn"; fail "sl")
  | (apply lst_updn; fail "ne"; fail "sl")
  | (apply lst_trans; with_reducible assumption; fail "sl"))
local macro_rules | `(tactic| fail "st") => `(tactic| first
  | with_reducible assumption
  | (apply tup_same; with_reducible assumption; fail "sm")
  | (apply SqT.of; fail "lk")
  | (apply tup_new; fail "nn"; fail "st")
  | (apply tup_upd; fail "lk"; fail "st")
  | (apply tup_trans; with_reducible assumption; fail "st")
  | (apply tup_updI; fail "lk"; fail "st"))
local macro_rules | `(tactic| fail "nw") => `(tactic| (repeat (refine nwI (fun _ _ => ?_))); refine fun _ => ?_)
local macro_rules | `(tactic| fail "ln") => `(tactic| first
  | exact lenLt (Nat.le_of_ble_eq_true rfl)
  | exact Nat.le_of_ble_eq_true rfl)
local macro_rules | `(tactic| fail "un") => `(tactic| first
  | apply un_lcR
  | (refine un_lc2 2 ?_)
  | (apply un_lcL; fail "sl")
  | (apply un_lcT; fail "st")
  | (apply un_lcZ; fail "sl")
  | (apply un_lcZT; fail "st")
  | (apply un_lcZM; fail "sl"))
local macro_rules | `(tactic| fail "uf") => `(tactic| first
  | apply un_forR
  | (apply un_forL; fail "sl")
  | (apply un_forT; fail "st")
  | (apply un_forZ; fail "sl")
  | (apply un_forZT; fail "st")
  | (apply un_forZM; fail "sl")
  | (apply un_forE; fail "st"))
local macro_rules | `(tactic| fail "ns") => `(tactic| try simp only [wipe, L2.start, List.set_cons_zero, List.set_cons_succ, List.map_cons, List.map_nil, List.length_cons, List.length_nil, List.replicate_succ, List.replicate_zero, List.cons_append, List.nil_append, Nat.reduceAdd, Nat.reduceSub])
local macro_rules | `(tactic| fail "da") => `(tactic| first
  | exact DpAll.nil
  | (apply DpAll.cons; (first | exact Dp.int _ | (apply Dp.tup; fail "st"; fail "da") | (apply Dp.lst; fail "sl"; fail "da") | exact Dp.bl _ | exact Dp.str _); fail "da"))
local macro_rules | `(tactic| fail "dp") => `(tactic| first
  | exact Dp.int _
  | (apply Dp.tup; fail "st"; fail "da")
  | (apply Dp.lst; fail "sl"; fail "da"))
local macro_rules | `(tactic| fail "so") => `(tactic| first
  | (apply sx_upd; fail "so")
  | (apply sx_mut; fail "so"; fail "nn")
  | (apply sx_of; fail "sm"))
local macro_rules | `(tactic| fail "lg") => `(tactic| (refine PyProof.Rows.int_text_len_1921 (lg_small ?_); omega))
local macro_rules | `(tactic| fail "sx1") => `(tactic| (conv => whnf); first
  | (refine fun _ => ?_; fail "nw"; first | fail "un" | skip)
  | (refine fun _ => ?_)
  | (refine wipe_1 (by decide) ?_; fail "ns")
  | (refine wipe_2 (by decide) (by decide) ?_; fail "ns")
  | (refine ⟨_, rfl, ?_⟩)
  | (refine ⟨rfl, ?_⟩)
  | (refine ⟨_, _, rfl, rfl, ?_⟩)
  | (refine ⟨_, _, rfl, ?_⟩)
  | (refine ⟨_, _, _, rfl, ?_⟩)
  | apply un_forR
  | (apply un_forL; fail "sl")
  | (apply un_forT; fail "st")
  | (apply un_forZ; fail "sl")
  | (apply un_forZT; fail "st")
  | (apply un_forZM; fail "sl")
  | (apply un_forE; fail "st")
  | apply un_inR
  | (apply tyI; fail "sl")
  | (apply dpI; fail "dp"; fail "dp"; rfl; rfl)
  | (apply gtI; fail "st"; rfl)
  | apply isi_ii
  | apply isi_ib
  | (apply isi_tt; fail "st")
  | refine divN1 ?_
  | (apply nx_range; exact Nat.le_of_ble_eq_true rfl)
  | (apply nx_list; fail "sl"; rfl)
  | (apply nx_tup; fail "st"; rfl)
  | (apply nx_zip; fail "sl"; fail "sl"; rfl; rfl)
  | (apply nx_zipT; fail "st"; fail "st"; rfl; rfl)
  | (apply nx_zipM; fail "sl"; fail "st"; rfl; rfl)
  | (apply nx_enumT; fail "st"; rfl)
  | (apply st_range; fail "ln")
  | (apply st_list; fail "sl"; fail "ln")
  | (apply st_tup; fail "st"; fail "ln")
  | (apply st_zip; fail "sl"; fail "sl"; fail "ln")
  | (apply st_zipT; fail "st"; fail "st"; fail "ln")
  | (apply st_zipM; fail "sl"; fail "st"; rfl; rfl)
  | (apply st_enumT; fail "st"; rfl)
  | (apply mulR; with_reducible assumption)
  | (apply mulL; with_reducible assumption)
  | (apply accI; fail "lk"; fail "ln")
  | (apply apdI; fail "lk"; fail "ln")
  | (apply ixLI; fail "sl"; rfl)
  | (apply ixTI; fail "st"; rfl)
  | (apply setI; fail "lk"; rfl)
  | (apply slLI; fail "sl")
  | (apply sum2I; fail "sl")
  | (apply rep2I; fail "lk"; exact Nat.le_of_ble_eq_true rfl)
  | (refine And.intro (lg_small ?_) ?_; omega)
  | (apply joinI3; fail "sl"; fail "lg"; fail "lg"; fail "lg"; decide)
  | (apply enI; fail "st")
  | (apply enL; fail "sl")
  | (apply ppL; fail "sl")
  | (apply ppT; fail "st")
  | (apply pqL; fail "sl")
  | (apply pqT; fail "st")
  | (apply pzL; fail "sl"; fail "sl")
  | (apply pzT; fail "st"; fail "st")
  | (apply pzM; fail "sl"; fail "st")
  | (refine Or.inl ⟨_, rfl, ?_⟩)
  | (refine Or.inr ⟨_, rfl, ?_⟩)
  | (apply pxL; fail "sl")
  | (apply pxT; fail "st")
  | (refine iteTI rfl ?_)
  | (refine iteFI Bool.false_ne_true ?_)
  | (refine iteTI ?_ ?_; (simp [*]; done))
  | (refine iteFI ?_ ?_; (simp [*]; done))
  | (refine And.intro ?_ ?_; first | decide | (simp only [List.length_append, List.length_cons, List.length_nil]; decide)))
local macro_rules | `(tactic| fail "sx") => `(tactic| repeat (fail "sx1"))
local macro_rules | `(tactic| fail "tx1") => `(tactic| (conv => whnf); first
  | (refine fun _ => ?_; fail "nw")
  | (refine fun _ => ?_)
  | (refine wipe_1 (by decide) ?_; fail "ns")
  | (refine wipe_2 (by decide) (by decide) ?_; fail "ns")
  | (refine ⟨_, rfl, ?_⟩)
  | (refine ⟨rfl, ?_⟩)
  | (refine ⟨_, _, rfl, rfl, ?_⟩)
  | (refine ⟨_, _, rfl, ?_⟩)
  | (refine ⟨_, _, _, rfl, ?_⟩)
  | apply un_forR
  | (apply un_forL; fail "sl")
  | (apply un_forT; fail "st")
  | (apply un_forZ; fail "sl")
  | (apply un_forZT; fail "st")
  | (apply un_forZM; fail "sl")
  | (apply un_forE; fail "st")
  | apply un_inR
  | (apply tyI; fail "sl")
  | (apply dpI; fail "dp"; fail "dp"; rfl; rfl)
  | (apply gtI; fail "st"; rfl)
  | apply isi_ii
  | apply isi_ib
  | (apply isi_tt; fail "st")
  | refine divN1 ?_
  | (apply nx_range; exact Nat.le_of_ble_eq_true rfl)
  | (apply nx_list; fail "sl"; rfl)
  | (apply nx_tup; fail "st"; rfl)
  | (apply nx_zip; fail "sl"; fail "sl"; rfl; rfl)
  | (apply nx_zipT; fail "st"; fail "st"; rfl; rfl)
  | (apply nx_zipM; fail "sl"; fail "st"; rfl; rfl)
  | (apply nx_enumT; fail "st"; rfl)
  | (apply st_range; fail "ln")
  | (apply st_list; fail "sl"; fail "ln")
  | (apply st_tup; fail "st"; fail "ln")
  | (apply st_zip; fail "sl"; fail "sl"; fail "ln")
  | (apply st_zipT; fail "st"; fail "st"; fail "ln")
  | (apply st_zipM; fail "sl"; fail "st"; rfl; rfl)
  | (apply st_enumT; fail "st"; rfl)
  | (apply mulR; with_reducible assumption)
  | (apply mulL; with_reducible assumption)
  | (apply accI; fail "lk"; fail "ln")
  | (apply apdI; fail "lk"; fail "ln")
  | (apply ixLI; fail "sl"; rfl)
  | (apply ixTI; fail "st"; rfl)
  | (apply setI; fail "lk"; rfl)
  | (apply slLI; fail "sl")
  | (apply sum2I; fail "sl")
  | (apply rep2I; fail "lk"; exact Nat.le_of_ble_eq_true rfl)
  | (refine And.intro (lg_small ?_) ?_; omega)
  | (apply joinI3; fail "sl"; fail "lg"; fail "lg"; fail "lg"; decide)
  | (apply enI; fail "st")
  | (apply enL; fail "sl")
  | (apply ppL; fail "sl")
  | (apply ppT; fail "st")
  | (apply pqL; fail "sl")
  | (apply pqT; fail "st")
  | (apply pzL; fail "sl"; fail "sl")
  | (apply pzT; fail "st"; fail "st")
  | (apply pzM; fail "sl"; fail "st")
  | (refine Or.inl ⟨_, rfl, ?_⟩)
  | (refine Or.inr ⟨_, rfl, ?_⟩)
  | (apply pxL; fail "sl")
  | (apply pxT; fail "st")
  | (refine iteTI rfl ?_)
  | (refine iteFI Bool.false_ne_true ?_)
  | (refine iteTI ?_ ?_; (simp [*]; done))
  | (refine iteFI ?_ ?_; (simp [*]; done))
  | (refine And.intro ?_ ?_; first | decide | (simp only [List.length_append, List.length_cons, List.length_nil]; decide)))
local macro_rules | `(tactic| fail "tx") => `(tactic| repeat (fail "tx1"))
local macro_rules | `(tactic| fail "om") => `(tactic| first
  | omega
  | (dsimp only; omega)
  | (split <;> omega)
  | (dsimp only; split <;> omega))
local macro_rules | `(tactic| fail "bx1") => `(tactic| first
  | (refine iteD (fun _ => ?_) (fun _ => ?_))
  | (refine iteN (fun _ => ?_) (fun _ => ?_))
  | (refine iteE (fun _ => ?_) (fun _ => ?_))
  | (refine iteTI rfl ?_)
  | (refine iteFI Bool.false_ne_true ?_)
  | (refine ⟨_, rfl, ?_⟩)
  | (refine ⟨_, _, rfl, rfl, ?_⟩)
  | (refine ⟨rfl, ?_⟩)
  | (refine ⟨_, _, rfl, ?_⟩)
  | (apply mulR; with_reducible assumption)
  | (apply mulL; with_reducible assumption)
  | (apply mulL; refine ⟨?_, ?_⟩ <;> fail "om")
  | (apply powI; fail "om"))
local macro_rules | `(tactic| fail "bx") => `(tactic| repeat' (fail "bx1"))

section
variable {P : Program} {w : World} {K : PySem.W.Frag} {mg : Str → Option Value} {base : Heap} {f : Addr} {fd : FuncData} {C : Addr}
theorem ok_discriminant_for (T : Tx K mg) (CP_coefficients : PrpF P w K mg base C "coefficients" 1 ps_Form_coefficients (spCoef K C)) (F : FnP K "discriminant_for" s_discriminant_for f fd) : FnOk P w K mg base CX0 3 f fd ps_discriminant_for (spDsc K C) := by
  refine F.ok sc_discriminant_for (fun vs H Q E h => ?_) (fun cdv A outer s H vs Q E hr h => ?_)
  · obtain ⟨a, t, rfl, _⟩ := h
    rfl
  · obtain ⟨a, ⟨x, y, z⟩, rfl, hf, ⟨b1, b2, b3⟩, k⟩ := h
    refine ⟨_, PSs.nox (pss_cons (ps_asg (pe_prp CP_coefficients hr (pv 0)) (k_tup (K := K) (n := 3) rfl (by rfl) (pgs_cons (pg_name (i := 1) sc_discriminant_for.nd rfl (by first | exact Or.inl rfl | exact Or.inr rfl)) (pgs_cons (pg_name (i := 2) sc_discriminant_for.nd rfl (by first | exact Or.inl rfl | exact Or.inr rfl)) (pgs_cons (pg_name (i := 3) sc_discriminant_for.nd rfl (by first | exact Or.inl rfl | exact Or.inr rfl)) pgs_nil)))))
    (pss_one (ps_ret (pe_op op_sub (pe_op op_mul (pv 2) (pv 2)) (pe_op op_mul (pe_op op_mul pe_int (pv 1)) (pv 3)))))), ?_⟩
    have mx : Sm x := ⟨by simp at b1; omega, by simp at b1; omega⟩
    have my : Sm y := ⟨by simp at b2; omega, by simp at b2; omega⟩
    have mz : Sm z := ⟨by simp at b3; omega, by simp at b3; omega⟩
    fail "sx"
    refine prCoef hf fun p hp => ?_
    fail "sx"
    exact k
theorem ok_is_reduced_form (T : Tx K mg) (CP_coefficients : PrpF P w K mg base C "coefficients" 1 ps_Form_coefficients (spCoef K C)) (C_discriminant_for : Cal P w K mg base 3 "discriminant_for" ps_discriminant_for (spDsc K C))
    (F : FnP K "is_reduced_form" s_is_reduced_form f fd) : FnOk P w K mg base CX0 4 f fd ps_is_reduced_form (spRed K C) := by
  refine F.ok sc_is_reduced_form (fun vs H Q E h => ?_) (fun cdv A outer s H vs Q E hr h => ?_)
  · obtain ⟨a, t, rfl, _⟩ := h
    rfl
  · obtain ⟨a, ⟨x, y, z⟩, rfl, hf, hb, k⟩ := h
    refine ⟨_, PSs.nox (pss_cons (ps_asg (pe_prp CP_coefficients hr (pv 0)) (k_tup (K := K) (n := 3) rfl (by rfl) (pgs_cons (pg_name (i := 3) sc_is_reduced_form.nd rfl (by first | exact Or.inl rfl | exact Or.inr rfl)) (pgs_cons (pg_name (i := 4) sc_is_reduced_form.nd rfl (by first | exact Or.inl rfl | exact Or.inr rfl)) (pgs_cons (pg_name (i := 5) sc_is_reduced_form.nd rfl (by first | exact Or.inl rfl | exact Or.inr rfl)) pgs_nil)))))
    (pss_cons (ps_set (i := 1) sc_is_reduced_form.nd rfl (Or.inl rfl) (pe_cal C_discriminant_for hr (pa_cons (pv 0) pa_nil)))
    (pss_cons (ps_if (pt_cmpR op_lt (pv 1) pe_int (nomark _))
    (pss_one (ps_ret (pe_and (pe_chain3 op_le op_le op_le (pe_un un_neg (pv 3)) (pv 4) (pv 3) (pv 5)) (pe_one (pe_or (pe_cmpR op_ge (pv 4) pe_int (nomark _)) (pe_one (pe_and (pe_cmpR op_ne (pv 4) (pe_un un_neg (pv 3)) (nomark _)) (pe_one (pe_cmpR op_ne (pv 3) (pv 5) (nomark _))))))))))
    pss_nil)
    (pss_cons (ps_if (PW.pt (pw_or (pt_cmpR op_le (pv 4) pe_int (nomark _)) (pw_or1 (pt_cmpR op_gt (pe_op op_mul (pv 4) (pv 4)) (pv 1) (nomark _)))))
    (pss_one (ps_ret pe_bl))
    pss_nil)
    (pss_cons (ps_set (i := 2) sc_is_reduced_form.nd rfl (Or.inl rfl) (pe_op op_sub (pe_op op_mul pe_int (pe_callB call_abs (by rfl) T.b_abs (by decide +kernel) (pa_cons (pv 3) pa_nil))) (pv 4)))
    (pss_one (ps_ret (pe_and (pe_cmpR op_gt (pe_op op_pow (pe_op op_add (pe_op op_mul pe_int (pe_callB call_abs (by rfl) T.b_abs (by decide +kernel) (pa_cons (pv 3) pa_nil))) (pv 4)) pe_int) (pv 1) (nomark _)) (pe_one (pe_or (pe_cmpR op_lt (pv 2) pe_int (nomark _)) (pe_one (pe_cmpR op_lt (pe_op op_mul (pv 2) (pv 2)) (pv 1) (nomark _))))))))))))), ?_⟩
    obtain ⟨b1, b2, b3⟩ := id hb
    have mx : Sm x := ⟨by simp at b1; omega, by simp at b1; omega⟩
    have my : Sm y := ⟨by simp at b2; omega, by simp at b2; omega⟩
    have mz : Sm z := ⟨by simp at b3; omega, by simp at b3; omega⟩
    fail "sx"
    refine prCoef hf fun p hp => ?_
    fail "sx"
    refine ⟨⟨a, (x, y, z), rfl, hf, hb, ?_⟩⟩
    fail "sx"
    simp only at b1 b2 b3
    refine iteD (fun h1 => ?_) (fun h1 => ?_)
    · fail "bx"
      all_goals refine blI k ?_
      all_goals unfold redM
      all_goals rw [if_pos h1]
      all_goals simp only at *
      all_goals first | (simp [*]; done) | (simp [*]; omega)
    · fail "bx"
      all_goals refine blI k ?_
      all_goals unfold redM
      all_goals rw [if_neg h1]
      all_goals simp only [absI, sq2] at *
      all_goals first | (simp [*]; done) | (simp [*]; omega)
/-- what is_discriminant tells -/
def isD (v : Int) : Bool := decide (-100000 ≤ v) && decide (v ≤ 1000) && decide (v % 4 ≤ 1) && !(decide (0 ≤ v) && decide (isq v * isq v = v))
def spIsD : Sp := fun vs H Q _ => ∃ v : Int, vs = [.int v] ∧ ∀ H', Same H H' → Q (.bl (isD v)) H'
theorem ok_is_discriminant (T : Tx K mg) (C_is_between : Cal P w K mg base 2 "is_between" ps_is_between spBetween) (C_is_square : Cal P w K mg base 2 "is_square" ps_is_square spIsSquare) (F : FnP K "is_discriminant" s_is_discriminant f fd) :
    FnOk P w K mg base CX0 3 f fd ps_is_discriminant spIsD := by
  refine F.ok sc_is_discriminant (fun vs H Q E h => ?_) (fun cdv A outer s H vs Q E hr h => ?_)
  · obtain ⟨v, rfl, _⟩ := h
    rfl
  · obtain ⟨v, rfl, k⟩ := h
    refine ⟨_, PSs.nox (pss_cons (ps_if (PW.pt (pw_or (pt_not (pt_val (pe_cal C_is_between hr (pa_cons (pv 0) (pa_cons (pe_gi T.g_least) (pa_cons (pe_gi T.g_most) pa_nil)))))) (pw_or1 (pt_cmpR op_gt (pe_op op_mod (pv 0) pe_int) pe_int (nomark _)))))
    (pss_one (ps_ret pe_bl))
    pss_nil)
    (pss_one (ps_ret (pe_not (pe_cal C_is_square hr (pa_cons (pv 0) pa_nil)))))), ?_⟩
    fail "rd"
    refine iteB (fun h1 => ?_) (fun h1 => ?_)
    · refine iteTI rfl ?_
      refine blI (k _ (Same.refl _)) ?_
      simp at h1
      simp [isD]
      omega
    · simp at h1
      fail "rd"
      refine ⟨(by decide : (0 : Int) < 4), ?_⟩
      fail "rd"
      refine iteD (fun h2 => ?_) (fun h2 => ?_)
      · refine blI (k _ (Same.refl _)) ?_
        simp [isD]
        omega
      · fail "rd"
        refine ⟨by omega, fun H1 s1 => ?_⟩
        fail "rd"
        refine blI (k _ s1) ?_
        have e1 : decide (-100000 ≤ v) = true := decide_eq_true h1.1
        have e2 : decide (v ≤ 1000) = true := decide_eq_true h1.2
        have e3 : decide (v % 4 ≤ 1) = true := decide_eq_true (by omega)
        simp only [isD, e1, e2, e3, Bool.true_and]
theorem ok_check_discriminant (T : Tx K mg) (C_is_discriminant : Cal P w K mg base 3 "is_discriminant" ps_is_discriminant spIsD) (F : FnP K "check_discriminant" s_check_discriminant f fd) :
    FnOk P w K mg base CX0 4 f fd ps_check_discriminant (fun vs H Q _ => ∃ v : Int, vs = [.int v] ∧ isD v = true ∧ ∀ H', Same H H' → Q .non H') := by
  refine F.ok sc_check_discriminant (fun vs H Q E h => ?_) (fun cdv A outer s H vs Q E hr h => ?_)
  · obtain ⟨v, rfl, _⟩ := h
    rfl
  · obtain ⟨v, rfl, hv, k⟩ := h
    refine ⟨_, PSs.nox (pss_one (ps_if (pt_not (pt_val (pe_cal C_is_discriminant hr (pa_cons (pv 0) pa_nil))))
    (pss_one ps_never)
    pss_nil)), ?_⟩
    fail "rd"
    intro H1 s1
    fail "rd"
    rw [hv]
    refine iteFI Bool.false_ne_true ?_
    exact k _ s1
end
end G41
set_option Elab.async false
set_option linter.all false
set_option maxRecDepth 100000
set_option maxHeartbeats 4000000
namespace G41
open PySem PySem.Spec PyProof.Rows L2
abbrev s_stepped : Stmt := top 57
abbrev nm_stepped : List Str := ["form", "most", "e", "k", "a", "b", "c", "whole", "wide"]
abbrev ps_stepped : List Str := ["form"]
theorem sc_stepped : FnScope nm_stepped ps_stepped (defScope s_stepped) := ⟨rfl, rfl, rfl, by decide +kernel, rfl, by decide +kernel, by decide +kernel⟩
local macro_rules | `(tactic| fail "rd1") => `(tactic| first
  | refine ⟨_, rfl, ?_⟩
  | refine ⟨_, _, rfl, rfl, ?_⟩
  | refine ⟨rfl, ?_⟩
  | refine ⟨_, _, rfl, ?_⟩
  | refine ⟨_, _, _, rfl, ?_⟩
  | fail)
local macro_rules | `(tactic| fail "rd") => `(tactic| repeat (fail "rd1"))
local macro_rules | `(tactic| fail "nn") => `(tactic| first
  | with_reducible assumption
  | (apply lkn; fail "ne"; fail "nn")
  | (apply none_same; with_reducible assumption; fail "sm"))
local macro_rules | `(tactic| fail "ne") => `(tactic| first
  | with_reducible assumption
  | exact (old_ne (by with_reducible assumption) (by with_reducible assumption)).1
  | exact (old_ne (by with_reducible assumption) (by with_reducible assumption)).2
  | (apply ne_new1; with_reducible assumption; fail "lk")
  | (apply ne_new2; with_reducible assumption; fail "lk"))
local macro_rules | `(tactic| fail "lk") => `(tactic| first
  | with_reducible assumption
  | exact upd_same
  | (apply lkn; fail "ne"; fail "lk")
  | (apply same_upd; with_reducible assumption; fail "lk"))
local macro_rules | `(tactic| fail "sm") => `(tactic| first
  | with_reducible assumption
  | exact Same.refl _
  | (apply same_mut; fail "sm"; fail "nn")
  | (apply trans_same; with_reducible assumption; fail "sm"))
local macro_rules | `(tactic| fail "sl") => `(tactic| first
  | with_reducible assumption
  | (apply lst_same; with_reducible assumption; fail "sm")
  | (apply SqL.of; fail "lk")
  | (apply lst_new; fail "nn"; fail "sl")
  | (apply lst_updn; fail "ne"; fail "sl")
  | (apply lst_trans; with_reducible assumption; fail "sl"))
local macro_rules | `(tactic| fail "st") => `(tactic| first
  | with_reducible assumption
  | (apply tup_same; with_reducible assumption; fail "sm")
  | (apply SqT.of; fail "lk")
  | (apply tup_new; fail "nn"; fail "st")
  | (apply tup_upd; fail "lk"; fail "st")
  | (apply tup_trans; with_reducible assumption; fail "st")
  | (apply tup_updI; fail "lk"; fail "st"))
local macro_rules | `(tactic| fail "nw") => `(tactic| (repeat (refine nwI (fun _ _ => ?_))); refine fun _ => ?_)
local macro_rules | `(tactic| fail "ln") => `(tactic| first
  | exact lenLt (Nat.le_of_ble_eq_true rfl)
  | exact Nat.le_of_ble_eq_true rfl)
local macro_rules | `(tactic| fail "un") => `(tactic| first
  | apply un_lcR
  | (refine un_lc2 2 ?_)
  | (apply un_lcL; fail "sl")
  | (apply un_lcT; fail "st")
  | (apply un_lcZ; fail "sl")
  | (apply un_lcZT; fail "st")
  | (apply un_lcZM; fail "sl"))
local macro_rules | `(tactic| fail "uf") => `(tactic| first
  | apply un_forR
  | (apply un_forL; fail "sl")
  | (apply un_forT; fail "st")
  | (apply un_forZ; fail "sl")
  | (apply un_forZT; fail "st")
  | (apply un_forZM; fail "sl")
  | (apply un_forE; fail "st"))
local macro_rules | `(tactic| fail "ns") => `(tactic| try simp only [wipe, L2.start, List.set_cons_zero, List.set_cons_succ, List.map_cons, List.map_nil, List.length_cons, List.length_nil, List.replicate_succ, List.replicate_zero, List.cons_append, List.nil_append, Nat.reduceAdd, Nat.reduceSub])
local macro_rules | `(tactic| fail "da") => `(tactic| first
  | exact DpAll.nil
  | (apply DpAll.cons; (first | exact Dp.int _ | (apply Dp.tup; fail "st"; fail "da") | (apply Dp.lst; fail "sl"; fail "da") | exact Dp.bl _ | exact Dp.str _); fail "da"))
local macro_rules | `(tactic| fail "dp") => `(tactic| first
  | exact Dp.int _
  | (apply Dp.tup; fail "st"; fail "da")
  | (apply Dp.lst; fail "sl"; fail "da"))
local macro_rules | `(tactic| fail "so") => `(tactic| first
  | (apply sx_upd; fail "so")
  | (apply sx_mut; fail "so"; fail "nn")
  | (apply sx_of; fail "sm"))
local macro_rules | `(tactic| fail "lg") => `(tactic| (refine PyProof.Rows.int_text_len_1921 (lg_small ?_); omega))
local macro_rules | `(tactic| fail "sx1") => `(tactic| (conv => whnf); first
  | (refine fun _ => ?_; fail "nw"; first | fail "un" | skip)
  | (refine fun _ => ?_)
  | (refine wipe_1 (by decide) ?_; fail "ns")
  | (refine wipe_2 (by decide) (by decide) ?_; fail "ns")
  | (refine ⟨_, rfl, ?_⟩)
  | (refine ⟨rfl, ?_⟩)
  | (refine ⟨_, _, rfl, rfl, ?_⟩)
  | (refine ⟨_, _, rfl, ?_⟩)
  | (refine ⟨_, _, _, rfl, ?_⟩)
  | apply un_forR
  | (apply un_forL; fail "sl")
  | (apply un_forT; fail "st")
  | (apply un_forZ; fail "sl")
  | (apply un_forZT; fail "st")
  | (apply un_forZM; fail "sl")
  | (apply un_forE; fail "st")
  | apply un_inR
  | (apply tyI; fail "sl")
  | (apply dpI; fail "dp"; fail "dp"; rfl; rfl)
  | (apply gtI; fail "st"; rfl)
  | apply isi_ii
  | apply isi_ib
  | (apply isi_tt; fail "st")
  | refine divN1 ?_
  | (apply nx_range; exact Nat.le_of_ble_eq_true rfl)
  | (apply nx_list; fail "sl"; rfl)
  | (apply nx_tup; fail "st"; rfl)
  | (apply nx_zip; fail "sl"; fail "sl"; rfl; rfl)
  | (apply nx_zipT; fail "st"; fail "st"; rfl; rfl)
  | (apply nx_zipM; fail "sl"; fail "st"; rfl; rfl)
  | (apply nx_enumT; fail "st"; rfl)
  | (apply st_range; fail "ln")
  | (apply st_list; fail "sl"; fail "ln")
  | (apply st_tup; fail "st"; fail "ln")
  | (apply st_zip; fail "sl"; fail "sl"; fail "ln")
  | (apply st_zipT; fail "st"; fail "st"; fail "ln")
  | (apply st_zipM; fail "sl"; fail "st"; rfl; rfl)
  | (apply st_enumT; fail "st"; rfl)
  | (apply mulR; with_reducible assumption)
  | (apply mulL; with_reducible assumption)
  | (apply accI; fail "lk"; fail "ln")
  | (apply apdI; fail "lk"; fail "ln")
  | (apply ixLI; fail "sl"; rfl)
  | (apply ixTI; fail "st"; rfl)
  | (apply setI; fail "lk"; rfl)
  | (apply slLI; fail "sl")
  | (apply sum2I; fail "sl")
  | (apply rep2I; fail "lk"; exact Nat.le_of_ble_eq_true rfl)
  | (refine And.intro (lg_small ?_) ?_; omega)
  | (apply joinI3; fail "sl"; fail "lg"; fail "lg"; fail "lg"; decide)
  | (apply enI; fail "st")
  | (apply enL; fail "sl")
  | (apply ppL; fail "sl")
  | (apply ppT; fail "st")
  | (apply pqL; fail "sl")
  | (apply pqT; fail "st")
  | (apply pzL; fail "sl"; fail "sl")
  | (apply pzT; fail "st"; fail "st")
  | (apply pzM; fail "sl"; fail "st")
  | (refine Or.inl ⟨_, rfl, ?_⟩)
  | (refine Or.inr ⟨_, rfl, ?_⟩)
  | (apply pxL; fail "sl")
  | (apply pxT; fail "st")
  | (refine iteTI rfl ?_)
  | (refine iteFI Bool.false_ne_true ?_)
  | (refine iteTI ?_ ?_; (simp [*]; done))
  | (refine iteFI ?_ ?_; (simp [*]; done))
  | (refine And.intro ?_ ?_; first | decide | (simp only [List.length_append, List.length_cons, List.length_nil]; decide)))
local macro_rules | `(tactic| fail "sx") => `(tactic| repeat (fail "sx1"))
local macro_rules | `(tactic| fail "tx1") => `(tactic| (conv => whnf); first
  | (refine fun _ => ?_; fail "nw")
  | (refine fun _ => ?_)
  | (refine wipe_1 (by decide) ?_; fail "ns")
  | (refine wipe_2 (by decide) (by decide) ?_; fail "ns")
  | (refine ⟨_, rfl, ?_⟩)
  | (refine ⟨rfl, ?_⟩)
  | (refine ⟨_, _, rfl, rfl, ?_⟩)
  | (refine ⟨_, _, rfl, ?_⟩)
  | (refine ⟨_, _, _, rfl, ?_⟩)
  | apply un_forR
  | (apply un_forL; fail "sl")
  | (apply un_forT; fail "st")
  | (apply un_forZ; fail "sl")
  | (apply un_forZT; fail "st")
  | (apply un_forZM; fail "sl")
  | (apply un_forE; fail "st")
  | apply un_inR
  | (apply tyI; fail "sl")
  | (apply dpI; fail "dp"; fail "dp"; rfl; rfl)
  | (apply gtI; fail "st"; rfl)
  | apply isi_ii
  | apply isi_ib
  | (apply isi_tt; fail "st")
  | refine divN1 ?_
  | (apply nx_range; exact Nat.le_of_ble_eq_true rfl)
  | (apply nx_list; fail "sl"; rfl)
  | (apply nx_tup; fail "st"; rfl)
  | (apply nx_zip; fail "sl"; fail "sl"; rfl; rfl)
  | (apply nx_zipT; fail "st"; fail "st"; rfl; rfl)
  | (apply nx_zipM; fail "sl"; fail "st"; rfl; rfl)
  | (apply nx_enumT; fail "st"; rfl)
  | (apply st_range; fail "ln")
  | (apply st_list; fail "sl"; fail "ln")
  | (apply st_tup; fail "st"; fail "ln")
  | (apply st_zip; fail "sl"; fail "sl"; fail "ln")
  | (apply st_zipT; fail "st"; fail "st"; fail "ln")
  | (apply st_zipM; fail "sl"; fail "st"; rfl; rfl)
  | (apply st_enumT; fail "st"; rfl)
  | (apply mulR; with_reducible assumption)
  | (apply mulL; with_reducible assumption)
  | (apply accI; fail "lk"; fail "ln")
  | (apply apdI; fail "lk"; fail "ln")
  | (apply ixLI; fail "sl"; rfl)
  | (apply ixTI; fail "st"; rfl)
  | (apply setI; fail "lk"; rfl)
  | (apply slLI; fail "sl")
  | (apply sum2I; fail "sl")
  | (apply rep2I; fail "lk"; exact Nat.le_of_ble_eq_true rfl)
  | (refine And.intro (lg_small ?_) ?_; omega)
  | (apply joinI3; fail "sl"; fail "lg"; fail "lg"; fail "lg"; decide)
  | (apply enI; fail "st")
  | (apply enL; fail "sl")
  | (apply ppL; fail "sl")
  | (apply ppT; fail "st")
  | (apply pqL; fail "sl")
  | (apply pqT; fail "st")
  | (apply pzL; fail "sl"; fail "sl")
  | (apply pzT; fail "st"; fail "st")
  | (apply pzM; fail "sl"; fail "st")
  | (refine Or.inl ⟨_, rfl, ?_⟩)
  | (refine Or.inr ⟨_, rfl, ?_⟩)
  | (apply pxL; fail "sl")
  | (apply pxT; fail "st")
  | (refine iteTI rfl ?_)
  | (refine iteFI Bool.false_ne_true ?_)
  | (refine iteTI ?_ ?_; (simp [*]; done))
  | (refine iteFI ?_ ?_; (simp [*]; done))
  | (refine And.intro ?_ ?_; first | decide | (simp only [List.length_append, List.length_cons, List.length_nil]; decide)))
local macro_rules | `(tactic| fail "tx") => `(tactic| repeat (fail "tx1"))
local macro_rules | `(tactic| fail "om") => `(tactic| first
  | omega
  | (dsimp only; omega)
  | (split <;> omega)
  | (dsimp only; split <;> omega))
local macro_rules | `(tactic| fail "bx1") => `(tactic| first
  | (refine iteD (fun _ => ?_) (fun _ => ?_))
  | (refine iteN (fun _ => ?_) (fun _ => ?_))
  | (refine iteE (fun _ => ?_) (fun _ => ?_))
  | (refine iteTI rfl ?_)
  | (refine iteFI Bool.false_ne_true ?_)
  | (refine ⟨_, rfl, ?_⟩)
  | (refine ⟨_, _, rfl, rfl, ?_⟩)
  | (refine ⟨rfl, ?_⟩)
  | (refine ⟨_, _, rfl, ?_⟩)
  | (apply mulR; with_reducible assumption)
  | (apply mulL; with_reducible assumption)
  | (apply mulL; refine ⟨?_, ?_⟩ <;> fail "om")
  | (apply powI; fail "om"))
local macro_rules | `(tactic| fail "bx") => `(tactic| repeat' (fail "bx1"))

theorem bnd_of {t : T3} (h : bndC t = true) : OkT t ∧ Sml t ∧ t.2.2 ≠ 0 ∧ -1000 ≤ dsc t ∧ dsc t ≤ 1000 := by
  obtain ⟨a, b, c⟩ := t
  simp only [bndC, absI, Bool.and_eq_true, decide_eq_true_eq, Bool.not_eq_true', decide_eq_false_iff_not] at h
  obtain ⟨⟨⟨⟨⟨⟨h1, h2⟩, h3⟩, h4⟩, h5⟩, h6⟩, h7⟩ := h
  have e1 : a.natAbs ≤ 100000 := by split at h1 <;> omega
  have e2 : b.natAbs ≤ 100000 := by split at h2 <;> omega
  have e3 : c.natAbs ≤ 100000 := by split at h3 <;> omega
  refine ⟨⟨h4, e1, e2, e3, fun e => h6 ?_⟩, ⟨e1, e2, e3⟩, h5, ?_, ?_⟩
  · show b * b - 4 * a * c = 0
    have e' : 4 * a * c = b * b := e
    omega
  · have h8 := of_decide_eq_true h7
    split at h8 <;> omega
  · have h8 := of_decide_eq_true h7
    split at h8 <;> omega
theorem isq_le {v : Int} (h : 0 ≤ v) (hb : v < 4 ^ 24) : isq v ≤ v := by
  have q := isq_ok h hb
  have q0 := isq_nn v
  rcases Int.lt_or_le 0 (isq v) with z | z
  · have := sq_ge (h := isq v) (by omega); omega
  · omega
theorem step_bnd {x y z : Int} (b2 : y.natAbs ≤ 100000) (b3 : z.natAbs ≤ 100000) (z0 : z ≠ 0) (d1 : -1000 ≤ dsc (x, y, z)) (d2 : dsc (x, y, z) ≤ 1000) :
    0 ≤ mostM (x, y, z) ∧ mostM (x, y, z) ≤ 100000 ∧ (stepE (x, y, z)).natAbs ≤ 300000 ∧ (stepK (x, y, z)).natAbs ≤ 400000 := by
  have a1 : 0 < absI z ∧ absI z ≤ 100000 := by
    unfold absI
    split <;> omega
  have m1 : 0 ≤ mostM (x, y, z) ∧ mostM (x, y, z) ≤ 100000 := by
    unfold mostM
    split
    · rename_i h
      simp at h
      exact ⟨isq_nn _, by have := isq_le (v := dsc (x, y, z)) (by omega) (by omega); omega⟩
    · exact ⟨by have := a1.1; show 0 ≤ absI z; omega, a1.2⟩
  have r1 := Int.emod_nonneg (mostM (x, y, z) + y) (b := 2 * absI z) (by omega)
  have r2 := Int.emod_lt_of_pos (mostM (x, y, z) + y) (b := 2 * absI z) (by omega)
  have e1 : (stepE (x, y, z)).natAbs ≤ 300000 := by
    show (mostM (x, y, z) - (mostM (x, y, z) + y) % (2 * absI z)).natAbs ≤ 300000
    omega
  refine ⟨m1.1, m1.2, e1, ?_⟩
  have q := Int.natAbs_fdiv_le_natAbs (stepE (x, y, z) + y) (2 * z)
  show ((stepE (x, y, z) + y).fdiv (2 * z)).natAbs ≤ 400000
  omega
section
variable {P : Program} {w : World} {K : PySem.W.Frag} {mg : Str → Option Value} {base : Heap} {f : Addr} {fd : FuncData} {C : Addr}
structure spStep (K : PySem.W.Frag) (C : Addr) (vs : List V) (H : Hp) (Q : VK) (E : XK) : Prop where
  ex : ∃ a t, vs = [.ref a] ∧ FormAt K C H a t ∧ bndC t = true ∧ bndC (stepM t) = true ∧
    ∀ H' q f p r s k, Same H H' → SqT K H' q [.ref f, .ref p] → H f = none → FormAt K C H' f (stepM t) → SqT K H' p [.ref r, .ref s] → SqT K H' r [.int 0, .int (-1)] → SqT K H' s [.int 1, .int k] → Sm k → Q (.ref q) H'
theorem ok_stepped (T : Tx K mg) (CF : MkF P w K mg base C) (CP_coefficients : PrpF P w K mg base C "coefficients" 1 ps_Form_coefficients (spCoef K C)) (C_discriminant_for : Cal P w K mg base 3 "discriminant_for" ps_discriminant_for (spDsc K C))
    (C_root_of : Cal P w K mg base 1 "root_of" ps_root_of spRoot) (F : FnP K "stepped" s_stepped f fd) : FnOk P w K mg base CX0 8 f fd ps_stepped (spStep K C) := by
  refine F.ok sc_stepped (fun vs H Q E h => ?_) (fun cdv A outer s H vs Q E hr h => ?_)
  · obtain ⟨a, t, rfl, _⟩ := h
    rfl
  · obtain ⟨a, ⟨x, y, z⟩, rfl, hf, hb, hb2, k⟩ := h
    refine ⟨_, PSs.nox (pss_cons (ps_asg (pe_prp CP_coefficients hr (pv 0)) (k_tup (K := K) (n := 3) rfl (by rfl) (pgs_cons (pg_name (i := 4) sc_stepped.nd rfl (by first | exact Or.inl rfl | exact Or.inr rfl)) (pgs_cons (pg_name (i := 5) sc_stepped.nd rfl (by first | exact Or.inl rfl | exact Or.inr rfl)) (pgs_cons (pg_name (i := 6) sc_stepped.nd rfl (by first | exact Or.inl rfl | exact Or.inr rfl)) pgs_nil)))))
    (pss_cons (ps_par (i := 7) (j := 8) rfl sc_stepped.nd rfl rfl (by decide) rfl rfl (pa_cons (pe_cal C_discriminant_for hr (pa_cons (pv 0) pa_nil)) (pa_cons (pe_callB call_abs (by rfl) T.b_abs (by decide +kernel) (pa_cons (pv 6) pa_nil)) pa_nil)) (by rfl))
    (pss_cons (ps_set (i := 1) sc_stepped.nd rfl (Or.inl rfl) (pe_ifExp (PW.pt (pw_and (pt_cmpR op_gt (pv 7) pe_int (nomark _)) (pw_and1 (pt_cmpR op_lt (pe_op op_mul (pv 6) (pv 6)) (pv 7) (nomark _))))) (pe_cal C_root_of hr (pa_cons (pv 7) pa_nil)) (pv 8)))
    (pss_cons (ps_set (i := 2) sc_stepped.nd rfl (Or.inl rfl) (pe_op op_sub (pv 1) (pe_op op_mod (pe_op op_add (pv 1) (pv 5)) (pe_op op_mul pe_int (pv 8)))))
    (pss_cons (ps_set (i := 3) sc_stepped.nd rfl (Or.inl rfl) (pe_op op_fdivN (pe_op op_add (pv 2) (pv 5)) (pe_op op_mul pe_int (pv 6))))
    (pss_one (ps_ret (pe_tup (pa_cons (pe_form CF hr (pa_cons (pe_tup (pa_cons (pv 6) (pa_cons (pv 2) (pa_cons (pe_op op_add (pe_op op_sub (pv 4) (pe_op op_mul (pv 5) (pv 3))) (pe_op op_mul (pe_op op_mul (pv 6) (pv 3)) (pv 3))) pa_nil)))) pa_nil)) (pa_cons (pe_tup (pa_cons (pe_tup (pa_cons pe_int (pa_cons (pe_un un_neg pe_int) pa_nil))) (pa_cons (pe_tup (pa_cons pe_int (pa_cons (pv 3) pa_nil))) pa_nil))) pa_nil)))))))))), ?_⟩
    obtain ⟨_, hs, z0, d1, d2⟩ := bnd_of hb
    obtain ⟨ok2, _, _⟩ := bnd_of hb2
    obtain ⟨b1, b2, b3⟩ := id hs
    simp only at b1 b2 b3 z0
    have mx : Sm x := ⟨by omega, by omega⟩
    have my : Sm y := ⟨by omega, by omega⟩
    have mz : Sm z := ⟨by omega, by omega⟩
    obtain ⟨m0, m1, be, bk⟩ := step_bnd (x := x) b2 b3 z0 d1 d2
    have hK : Sm ((mostM (x, y, z) - (mostM (x, y, z) + y) % (2 * if z < 0 then -z else z) + y).fdiv (2 * z)) := by
      show Sm (stepK (x, y, z))
      exact ⟨by omega, by omega⟩
    have m2 : Sm 2 := ⟨by decide, by decide⟩
    fail "sx"
    refine prCoef hf fun p hp => ?_
    replace hp : SqT K H p [.int x, .int y, .int z] := hp
    fail "sx"
    refine ⟨⟨a, (x, y, z), rfl, hf, hs, ?_⟩⟩
    fail "sx"
    refine iteD (fun h1 => ?_) (fun h1 => ?_)
    · fail "sx"
      refine iteD (fun h2 => ?_) (fun h2 => ?_)
      · fail "sx"
        refine ⟨by omega, by omega, fun H1 s1 => ?_⟩
        have em : isq (dsc (x, y, z)) = mostM (x, y, z) := by simp [mostM, absI, h1, h2]
        rw [em]
        fail "sx"
        refine ⟨by show 0 < 2 * (if z < 0 then -z else z); split <;> omega, ?_⟩
        fail "sx"
        refine ⟨⟨by omega, by omega⟩, ?_⟩
        fail "sx"
        refine ⟨_, stepM (x, y, z), rfl, ?_, ok2, fun H9 f9 s9 hf9 hF => ?_⟩
        exact upd_same
        fail "sx"
        apply k
        fail "sm"
        fail "st"
        fail "nn"
        exact form_same hF (by fail "sm")
        fail "st"
        fail "st"
        fail "st"
        exact hK
      · have em : mostM (x, y, z) = if z < 0 then -z else z := by simp [mostM, absI, h1, h2]
        refine ⟨.int (mostM (x, y, z)), by rw [em]; rfl, ?_⟩
        fail "sx"
        refine ⟨by show 0 < 2 * (if z < 0 then -z else z); split <;> omega, ?_⟩
        fail "sx"
        refine ⟨⟨by omega, by omega⟩, ?_⟩
        fail "sx"
        refine ⟨_, stepM (x, y, z), rfl, ?_, ok2, fun H9 f9 s9 hf9 hF => ?_⟩
        exact upd_same
        fail "sx"
        apply k
        fail "sm"
        fail "st"
        fail "nn"
        exact form_same hF (by fail "sm")
        fail "st"
        fail "st"
        fail "st"
        exact hK
    · refine iteFI Bool.false_ne_true ?_
      have em : mostM (x, y, z) = if z < 0 then -z else z := by simp [mostM, absI, h1]
      refine ⟨.int (mostM (x, y, z)), by rw [em]; rfl, ?_⟩
      fail "sx"
      refine ⟨by show 0 < 2 * (if z < 0 then -z else z); split <;> omega, ?_⟩
      fail "sx"
      refine ⟨⟨by omega, by omega⟩, ?_⟩
      fail "sx"
      refine ⟨_, stepM (x, y, z), rfl, ?_, ok2, fun H9 f9 s9 hf9 hF => ?_⟩
      exact upd_same
      fail "sx"
      apply k
      fail "sm"
      fail "st"
      fail "nn"
      exact form_same hF (by fail "sm")
      fail "st"
      fail "st"
      fail "st"
      exact hK
end
end G41
set_option Elab.async false
set_option linter.all false
set_option maxRecDepth 100000
set_option maxHeartbeats 4000000
namespace G41
open PySem PySem.Spec PyProof.Rows L2
abbrev s_reduced_with : Stmt := top 58
abbrev nm_reduced_with : List Str := ["form", "change", "step"]
abbrev ps_reduced_with : List Str := ["form"]
theorem sc_reduced_with : FnScope nm_reduced_with ps_reduced_with (defScope s_reduced_with) := ⟨rfl, rfl, rfl, by decide +kernel, rfl, by decide +kernel, by decide +kernel⟩
local macro_rules | `(tactic| fail "rd1") => `(tactic| first
  | refine ⟨_, rfl, ?_⟩
  | refine ⟨_, _, rfl, rfl, ?_⟩
  | refine ⟨rfl, ?_⟩
  | refine ⟨_, _, rfl, ?_⟩
  | refine ⟨_, _, _, rfl, ?_⟩
  | fail)
local macro_rules | `(tactic| fail "rd") => `(tactic| repeat (fail "rd1"))
local macro_rules | `(tactic| fail "nn") => `(tactic| first
  | with_reducible assumption
  | (apply lkn; fail "ne"; fail "nn")
  | (apply none_same; with_reducible assumption; fail "sm"))
local macro_rules | `(tactic| fail "ne") => `(tactic| first
  | with_reducible assumption
  | exact (old_ne (by with_reducible assumption) (by with_reducible assumption)).1
  | exact (old_ne (by with_reducible assumption) (by with_reducible assumption)).2
  | (apply ne_new1; with_reducible assumption; fail "lk")
  | (apply ne_new2; with_reducible assumption; fail "lk"))
local macro_rules | `(tactic| fail "lk") => `(tactic| first
  | with_reducible assumption
  | exact upd_same
  | (apply lkn; fail "ne"; fail "lk")
  | (apply same_upd; with_reducible assumption; fail "lk"))
local macro_rules | `(tactic| fail "sm") => `(tactic| first
  | with_reducible assumption
  | exact Same.refl _
  | (apply same_mut; fail "sm"; fail "nn")
  | (apply trans_same; with_reducible assumption; fail "sm"))
local macro_rules | `(tactic| fail "sl") => `(tactic| first
  | with_reducible assumption
  | (apply lst_same; with_reducible assumption; fail "sm")
  | (apply SqL.of; fail "lk")
  | (apply lst_new; fail "nn"; fail "sl")
  | (apply lst_updn; fail "ne"; fail "sl")
  | (apply lst_trans; with_reducible assumption; fail "sl"))
local macro_rules | `(tactic| fail "st") => `(tactic| first
  | with_reducible assumption
  | (apply tup_same; with_reducible assumption; fail "sm")
  | (apply SqT.of; fail "lk")
  | (apply tup_new; fail "nn"; fail "st")
  | (apply tup_upd; fail "lk"; fail "st")
  | (apply tup_trans; with_reducible assumption; fail "st")
  | (apply tup_updI; fail "lk"; fail "st"))
local macro_rules | `(tactic| fail "nw") => `(tactic| (repeat (refine nwI (fun _ _ => ?_))); refine fun _ => ?_)
local macro_rules | `(tactic| fail "ln") => `(tactic| first
  | exact lenLt (Nat.le_of_ble_eq_true rfl)
  | exact Nat.le_of_ble_eq_true rfl)
local macro_rules | `(tactic| fail "un") => `(tactic| first
  | apply un_lcR
  | (refine un_lc2 2 ?_)
  | (apply un_lcL; fail "sl")
  | (apply un_lcT; fail "st")
  | (apply un_lcZ; fail "sl")
  | (apply un_lcZT; fail "st")
  | (apply un_lcZM; fail "sl"))
local macro_rules | `(tactic| fail "uf") => `(tactic| first
  | apply un_forR
  | (apply un_forL; fail "sl")
  | (apply un_forT; fail "st")
  | (apply un_forZ; fail "sl")
  | (apply un_forZT; fail "st")
  | (apply un_forZM; fail "sl")
  | (apply un_forE; fail "st"))
local macro_rules | `(tactic| fail "ns") => `(tactic| try simp only [wipe, L2.start, List.set_cons_zero, List.set_cons_succ, List.map_cons, List.map_nil, List.length_cons, List.length_nil, List.replicate_succ, List.replicate_zero, List.cons_append, List.nil_append, Nat.reduceAdd, Nat.reduceSub])
local macro_rules | `(tactic| fail "da") => `(tactic| first
  | exact DpAll.nil
  | (apply DpAll.cons; (first | exact Dp.int _ | (apply Dp.tup; fail "st"; fail "da") | (apply Dp.lst; fail "sl"; fail "da") | exact Dp.bl _ | exact Dp.str _); fail "da"))
local macro_rules | `(tactic| fail "dp") => `(tactic| first
  | exact Dp.int _
  | (apply Dp.tup; fail "st"; fail "da")
  | (apply Dp.lst; fail "sl"; fail "da"))
local macro_rules | `(tactic| fail "so") => `(tactic| first
  | (apply sx_upd; fail "so")
  | (apply sx_mut; fail "so"; fail "nn")
  | (apply sx_of; fail "sm"))
local macro_rules | `(tactic| fail "lg") => `(tactic| (refine PyProof.Rows.int_text_len_1921 (lg_small ?_); omega))
local macro_rules | `(tactic| fail "sx1") => `(tactic| (conv => whnf); first
  | (refine fun _ => ?_; fail "nw"; first | fail "un" | skip)
  | (refine fun _ => ?_)
  | (refine wipe_1 (by decide) ?_; fail "ns")
  | (refine wipe_2 (by decide) (by decide) ?_; fail "ns")
  | (refine ⟨_, rfl, ?_⟩)
  | (refine ⟨rfl, ?_⟩)
  | (refine ⟨_, _, rfl, rfl, ?_⟩)
  | (refine ⟨_, _, rfl, ?_⟩)
  | (refine ⟨_, _, _, rfl, ?_⟩)
  | apply un_forR
  | (apply un_forL; fail "sl")
  | (apply un_forT; fail "st")
  | (apply un_forZ; fail "sl")
  | (apply un_forZT; fail "st")
  | (apply un_forZM; fail "sl")
  | (apply un_forE; fail "st")
  | apply un_inR
  | (apply tyI; fail "sl")
  | (apply dpI; fail "dp"; fail "dp"; rfl; rfl)
  | (apply gtI; fail "st"; rfl)
  | apply isi_ii
  | apply isi_ib
  | (apply isi_tt; fail "st")
  | refine divN1 ?_
  | (apply nx_range; exact Nat.le_of_ble_eq_true rfl)
  | (apply nx_list; fail "sl"; rfl)
  | (apply nx_tup; fail "st"; rfl)
  | (apply nx_zip; fail "sl"; fail "sl"; rfl; rfl)
  | (apply nx_zipT; fail "st"; fail "st"; rfl; rfl)
  | (apply nx_zipM; fail "sl"; fail "st"; rfl; rfl)
  | (apply nx_enumT; fail "st"; rfl)
  | (apply st_range; fail "ln")
  | (apply st_list; fail "sl"; fail "ln")
  | (apply st_tup; fail "st"; fail "ln")
  | (apply st_zip; fail "sl"; fail "sl"; fail "ln")
  | (apply st_zipT; fail "st"; fail "st"; fail "ln")
  | (apply st_zipM; fail "sl"; fail "st"; rfl; rfl)
  | (apply st_enumT; fail "st"; rfl)
  | (apply mulR; with_reducible assumption)
  | (apply mulL; with_reducible assumption)
  | (apply accI; fail "lk"; fail "ln")
  | (apply apdI; fail "lk"; fail "ln")
  | (apply ixLI; fail "sl"; rfl)
  | (apply ixTI; fail "st"; rfl)
  | (apply setI; fail "lk"; rfl)
  | (apply slLI; fail "sl")
  | (apply sum2I; fail "sl")
  | (apply rep2I; fail "lk"; exact Nat.le_of_ble_eq_true rfl)
  | (refine And.intro (lg_small ?_) ?_; omega)
  | (apply joinI3; fail "sl"; fail "lg"; fail "lg"; fail "lg"; decide)
  | (apply enI; fail "st")
  | (apply enL; fail "sl")
  | (apply ppL; fail "sl")
  | (apply ppT; fail "st")
  | (apply pqL; fail "sl")
  | (apply pqT; fail "st")
  | (apply pzL; fail "sl"; fail "sl")
  | (apply pzT; fail "st"; fail "st")
  | (apply pzM; fail "sl"; fail "st")
  | (refine Or.inl ⟨_, rfl, ?_⟩)
  | (refine Or.inr ⟨_, rfl, ?_⟩)
  | (apply pxL; fail "sl")
  | (apply pxT; fail "st")
  | (refine iteTI rfl ?_)
  | (refine iteFI Bool.false_ne_true ?_)
  | (refine iteTI ?_ ?_; (simp [*]; done))
  | (refine iteFI ?_ ?_; (simp [*]; done))
  | (refine And.intro ?_ ?_; first | decide | (simp only [List.length_append, List.length_cons, List.length_nil]; decide)))
local macro_rules | `(tactic| fail "sx") => `(tactic| repeat (fail "sx1"))
local macro_rules | `(tactic| fail "tx1") => `(tactic| (conv => whnf); first
  | (refine fun _ => ?_; fail "nw")
  | (refine fun _ => ?_)
  | (refine wipe_1 (by decide) ?_; fail "ns")
  | (refine wipe_2 (by decide) (by decide) ?_; fail "ns")
  | (refine ⟨_, rfl, ?_⟩)
  | (refine ⟨rfl, ?_⟩)
  | (refine ⟨_, _, rfl, rfl, ?_⟩)
  | (refine ⟨_, _, rfl, ?_⟩)
  | (refine ⟨_, _, _, rfl, ?_⟩)
  | apply un_forR
  | (apply un_forL; fail "sl")
  | (apply un_forT; fail "st")
  | (apply un_forZ; fail "sl")
  | (apply un_forZT; fail "st")
  | (apply un_forZM; fail "sl")
  | (apply un_forE; fail "st")
  | apply un_inR
  | (apply tyI; fail "sl")
  | (apply dpI; fail "dp"; fail "dp"; rfl; rfl)
  | (apply gtI; fail "st"; rfl)
  | apply isi_ii
  | apply isi_ib
  | (apply isi_tt; fail "st")
  | refine divN1 ?_
  | (apply nx_range; exact Nat.le_of_ble_eq_true rfl)
  | (apply nx_list; fail "sl"; rfl)
  | (apply nx_tup; fail "st"; rfl)
  | (apply nx_zip; fail "sl"; fail "sl"; rfl; rfl)
  | (apply nx_zipT; fail "st"; fail "st"; rfl; rfl)
  | (apply nx_zipM; fail "sl"; fail "st"; rfl; rfl)
  | (apply nx_enumT; fail "st"; rfl)
  | (apply st_range; fail "ln")
  | (apply st_list; fail "sl"; fail "ln")
  | (apply st_tup; fail "st"; fail "ln")
  | (apply st_zip; fail "sl"; fail "sl"; fail "ln")
  | (apply st_zipT; fail "st"; fail "st"; fail "ln")
  | (apply st_zipM; fail "sl"; fail "st"; rfl; rfl)
  | (apply st_enumT; fail "st"; rfl)
  | (apply mulR; with_reducible assumption)
  | (apply mulL; with_reducible assumption)
  | (apply accI; fail "lk"; fail "ln")
  | (apply apdI; fail "lk"; fail "ln")
  | (apply ixLI; fail "sl"; rfl)
  | (apply ixTI; fail "st"; rfl)
  | (apply setI; fail "lk"; rfl)
  | (apply slLI; fail "sl")
  | (apply sum2I; fail "sl")
  | (apply rep2I; fail "lk"; exact Nat.le_of_ble_eq_true rfl)
  | (refine And.intro (lg_small ?_) ?_; omega)
  | (apply joinI3; fail "sl"; fail "lg"; fail "lg"; fail "lg"; decide)
  | (apply enI; fail "st")
  | (apply enL; fail "sl")
  | (apply ppL; fail "sl")
  | (apply ppT; fail "st")
  | (apply pqL; fail "sl")
  | (apply pqT; fail "st")
  | (apply pzL; fail "sl"; fail "sl")
  | (apply pzT; fail "st"; fail "st")
  | (apply pzM; fail "sl"; fail "st")
  | (refine Or.inl ⟨_, rfl, ?_⟩)
  | (refine Or.inr ⟨_, rfl, ?_⟩)
  | (apply pxL; fail "sl")
  | (apply pxT; fail "st")
  | (refine iteTI rfl ?_)
  | (refine iteFI Bool.false_ne_true ?_)
  | (refine iteTI ?_ ?_; (simp [*]; done))
  | (refine iteFI ?_ ?_; (simp [*]; done))
  | (refine And.intro ?_ ?_; first | decide | (simp only [List.length_append, List.length_cons, List.length_nil]; decide)))
local macro_rules | `(tactic| fail "tx") => `(tactic| repeat (fail "tx1"))
local macro_rules | `(tactic| fail "om") => `(tactic| first
  | omega
  | (dsimp only; omega)
  | (split <;> omega)
  | (dsimp only; split <;> omega))
local macro_rules | `(tactic| fail "bx1") => `(tactic| first
  | (refine iteD (fun _ => ?_) (fun _ => ?_))
  | (refine iteN (fun _ => ?_) (fun _ => ?_))
  | (refine iteE (fun _ => ?_) (fun _ => ?_))
  | (refine iteTI rfl ?_)
  | (refine iteFI Bool.false_ne_true ?_)
  | (refine ⟨_, rfl, ?_⟩)
  | (refine ⟨_, _, rfl, rfl, ?_⟩)
  | (refine ⟨rfl, ?_⟩)
  | (refine ⟨_, _, rfl, ?_⟩)
  | (apply mulR; with_reducible assumption)
  | (apply mulL; with_reducible assumption)
  | (apply mulL; refine ⟨?_, ?_⟩ <;> fail "om")
  | (apply powI; fail "om"))
local macro_rules | `(tactic| fail "bx") => `(tactic| repeat' (fail "bx1"))

theorem redC_split {n : Nat} {t r : T3} (h : redC n t = some r) : bndC t = true ∧ ∃ k, n = k + 1 ∧ ((redM t = true ∧ r = t) ∨ (redM t = false ∧ redC k (stepM t) = some r)) := by
  cases n with
  | zero => cases h
  | succ k =>
    unfold redC at h
    by_cases hb : bndC t = true
    · rw [if_pos hb] at h
      refine ⟨hb, k, rfl, ?_⟩
      by_cases hr : redM t = true
      · rw [if_pos hr] at h
        exact .inl ⟨hr, (Option.some.inj h).symm⟩
      · rw [if_neg hr] at h
        exact .inr ⟨by simpa using hr, h⟩
    · rw [if_neg hb] at h
      cases h
section
variable {P : Program} {w : World} {K : PySem.W.Frag} {mg : Str → Option Value} {base : Heap} {f : Addr} {fd : FuncData} {C : Addr}
/-- a table of two rows of ints -/
def Tb (K : PySem.W.Frag) (H : Hp) (p : Addr) : Prop := ∃ r s a b c d, SqT K H p [.ref r, .ref s] ∧ SqT K H r [.int a, .int b] ∧ SqT K H s [.int c, .int d]
theorem tb_same {H H' : Hp} {p : Addr} (h : Tb K H p) (e : Same H H') : Tb K H' p := by
  obtain ⟨r, s, a, b, c, d, h1, h2, h3⟩ := h
  exact ⟨r, s, a, b, c, d, same_tup e h1, same_tup e h2, same_tup e h3⟩
structure spRW (K : PySem.W.Frag) (C : Addr) (vs : List V) (H : Hp) (Q : VK) (E : XK) : Prop where
  ex : ∃ a t r n, vs = [.ref a] ∧ FormAt K C H a t ∧ redC n t = some r ∧ ∀ H' q f p, Same H H' → SqT K H' q [.ref f, .ref p] → FormAt K C H' f r → Q (.ref q) H'
theorem ok_reduced_with (T : Tx K mg) (C_unit_table : Cal P w K mg base 1 "unit_table" ps_unit_table (spUnit K)) (C_joined_tables : Cal P w K mg base 2 "joined_tables" ps_joined_tables (spJoined K))
    (C_is_reduced_form : Cal P w K mg base 4 "is_reduced_form" ps_is_reduced_form (spRed K C)) (C_stepped : Cal P w K mg base 8 "stepped" ps_stepped (spStep K C))
    (F : FnP K "reduced_with" s_reduced_with f fd) : FnOk P w K mg base CX0 9 f fd ps_reduced_with (spRW K C) := by
  refine F.ok sc_reduced_with (fun vs H Q E h => ?_) (fun cdv A outer s H vs Q E hr h => ?_)
  · obtain ⟨a, t, r, n, rfl, _⟩ := h
    rfl
  · obtain ⟨a, t, r, n, rfl, hf, hn, k⟩ := h
    refine ⟨_, PSs.nox (pss_cons (ps_set (i := 1) sc_reduced_with.nd rfl (Or.inl rfl) (pe_cal C_unit_table hr (pa_cons pe_int pa_nil)))
    (pss_cons (ps_while PassesOwn.never (pt_not (pt_val (pe_cal C_is_reduced_form hr (pa_cons (pv 0) pa_nil))))
    (pss_cons (ps_asg (pe_cal C_stepped hr (pa_cons (pv 0) pa_nil)) (k_tup (K := K) (n := 2) rfl (by rfl) (pgs_cons (pg_name (i := 0) sc_reduced_with.nd rfl (by first | exact Or.inl rfl | exact Or.inr rfl)) (pgs_cons (pg_name (i := 2) sc_reduced_with.nd rfl (by first | exact Or.inl rfl | exact Or.inr rfl)) pgs_nil))))
    (pss_one (ps_set (i := 1) sc_reduced_with.nd rfl (Or.inl rfl) (pe_cal C_joined_tables hr (pa_cons (pv 1) (pa_cons (pv 2) pa_nil)))))))
    (pss_one (ps_ret (pe_tup (pa_cons (pv 0) (pa_cons (pv 1) pa_nil))))))), ?_⟩
    fail "rd"
    refine fun H1 p1 r1 s1 x1 x2 x3 x4 e1 h1 h2 h3 => ?_
    fail "rd"
    refine ⟨fun m σ H' => ∃ f p t' o, σ = [some (.ref f), some (.ref p), o] ∧ Same H H' ∧ FormAt K C H' f t' ∧ Tb K H' p ∧ redC m t' = some r, ⟨n, a, p1, t, _, rfl, e1, form_same hf e1, ⟨r1, s1, x1, x2, x3, x4, h1, h2, h3⟩, hn⟩, ?_⟩
    rintro m σ H' ⟨f, p, t', o, rfl, hs, hf', htb, hm⟩
    obtain ⟨hb, j, rfl, hc⟩ := redC_split hm
    fail "rd"
    refine ⟨⟨f, t', rfl, hf', (bnd_of hb).2.1, ?_⟩⟩
    fail "rd"
    rcases hc with ⟨h4, rfl⟩ | ⟨h4, h5⟩
    · rw [h4]
      refine iteFI Bool.false_ne_true ?_
      fail "sx"
      apply k
      fail "sm"
      fail "st"
      exact form_same hf' (by fail "sm")
    · rw [h4]
      refine iteTI rfl ⟨_, fun _ _ h => h, ?_⟩
      obtain ⟨hb2, _⟩ := redC_split h5
      fail "rd"
      refine ⟨⟨f, t', rfl, hf', hb, hb2, fun H2 q g u v w' k' e2 hq hg0 hg hu hv hw hk => ?_⟩⟩
      fail "sx"
      obtain ⟨r2, s2, y1, y2, y3, y4, j1, j2, j3⟩ := tb_same htb e2
      refine ⟨⟨p, r2, s2, y1, y2, y3, y4, u, v, w', 0, -1, 1, k', rfl, j1, j2, j3, hu, hv, hw, ⟨by decide, by decide⟩, ⟨by decide, by decide⟩, ⟨by decide, by decide⟩, hk, fun H3 p3 r3 s3 z1 z2 z3 z4 e3 g1 g2 g3 => ?_⟩⟩
      fail "rd"
      exact ⟨j, Nat.lt_succ_self _, g, p3, stepM t', _, rfl, (hs.trans e2).trans e3, form_same hg e3, ⟨r3, s3, z1, z2, z3, z4, g1, g2, g3⟩, h5⟩
end
end G41
set_option Elab.async false
set_option linter.all false
set_option maxRecDepth 100000
set_option maxHeartbeats 4000000
namespace G41
open PySem PySem.Spec PyProof.Rows L2
/-- what isinstance(x, Form) asks -/
structure InsF (K : PySem.W.Frag) (C : Addr) : Prop where
  ha : PySem.W.findIn K (.ref C) "__class__" = some (some (.builtin "object.__class__"))
  hn : PySem.W.specialIn K (.builtin "object.__class__") "__get__" = some (some (.builtin "getset_descriptor.__get__"))
  tk : PySem.W.takesIn K (.builtin "object.__class__") = some true
  hm : PySem.W.mroIn K C (.type "object") = some true
theorem isi_own {K : PySem.W.Frag} {H : Hp} {C a dx : Addr} {fs : List (Str × V)} {P : Bool → Prop} (I : InsF K C) (c : Cls K C) (h : H a = some (.ins C dx fs)) (q : P true) :
    ∃ (x c : V) (t u : Value) (b : Bool), [V.ref a, V.ref C] = [x, c] ∧ ClsV c u ∧ TyX K H x t ∧ PySem.W.kitOne K t u = some b ∧ P b :=
  ⟨.ref a, .ref C, .ref C, .ref C, true, rfl, .own C, .base (.ins h c I.ha I.hn I.tk I.hm), if_pos (beq_self_eq_true _), q⟩
local macro_rules | `(tactic| fail "rd1") => `(tactic| first
  | refine ⟨_, rfl, ?_⟩
  | refine ⟨_, _, rfl, rfl, ?_⟩
  | refine ⟨rfl, ?_⟩
  | refine ⟨_, _, rfl, ?_⟩
  | refine ⟨_, _, _, rfl, ?_⟩
  | fail)
local macro_rules | `(tactic| fail "rd") => `(tactic| repeat (fail "rd1"))
local macro_rules | `(tactic| fail "nn") => `(tactic| first
  | with_reducible assumption
  | (apply lkn; fail "ne"; fail "nn")
  | (apply none_same; with_reducible assumption; fail "sm"))
local macro_rules | `(tactic| fail "ne") => `(tactic| first
  | with_reducible assumption
  | exact (old_ne (by with_reducible assumption) (by with_reducible assumption)).1
  | exact (old_ne (by with_reducible assumption) (by with_reducible assumption)).2
  | (apply ne_new1; with_reducible assumption; fail "lk")
  | (apply ne_new2; with_reducible assumption; fail "lk"))
local macro_rules | `(tactic| fail "lk") => `(tactic| first
  | with_reducible assumption
  | exact upd_same
  | (apply lkn; fail "ne"; fail "lk")
  | (apply same_upd; with_reducible assumption; fail "lk"))
local macro_rules | `(tactic| fail "sm") => `(tactic| first
  | with_reducible assumption
  | exact Same.refl _
  | (apply same_mut; fail "sm"; fail "nn")
  | (apply trans_same; with_reducible assumption; fail "sm"))
local macro_rules | `(tactic| fail "sl") => `(tactic| first
  | with_reducible assumption
  | (apply lst_same; with_reducible assumption; fail "sm")
  | (apply SqL.of; fail "lk")
  | (apply lst_new; fail "nn"; fail "sl")
  | (apply lst_updn; fail "ne"; fail "sl")
  | (apply lst_trans; with_reducible assumption; fail "sl"))
local macro_rules | `(tactic| fail "st") => `(tactic| first
  | with_reducible assumption
  | (apply tup_same; with_reducible assumption; fail "sm")
  | (apply SqT.of; fail "lk")
  | (apply tup_new; fail "nn"; fail "st")
  | (apply tup_upd; fail "lk"; fail "st")
  | (apply tup_trans; with_reducible assumption; fail "st")
  | (apply tup_updI; fail "lk"; fail "st"))
local macro_rules | `(tactic| fail "nw") => `(tactic| (repeat (refine nwI (fun _ _ => ?_))); refine fun _ => ?_)
local macro_rules | `(tactic| fail "ln") => `(tactic| first
  | exact lenLt (Nat.le_of_ble_eq_true rfl)
  | exact Nat.le_of_ble_eq_true rfl)
local macro_rules | `(tactic| fail "un") => `(tactic| first
  | apply un_lcR
  | (refine un_lc2 2 ?_)
  | (apply un_lcL; fail "sl")
  | (apply un_lcT; fail "st")
  | (apply un_lcZ; fail "sl")
  | (apply un_lcZT; fail "st")
  | (apply un_lcZM; fail "sl"))
local macro_rules | `(tactic| fail "uf") => `(tactic| first
  | apply un_forR
  | (apply un_forL; fail "sl")
  | (apply un_forT; fail "st")
  | (apply un_forZ; fail "sl")
  | (apply un_forZT; fail "st")
  | (apply un_forZM; fail "sl")
  | (apply un_forE; fail "st"))
local macro_rules | `(tactic| fail "ns") => `(tactic| try simp only [wipe, L2.start, List.set_cons_zero, List.set_cons_succ, List.map_cons, List.map_nil, List.length_cons, List.length_nil, List.replicate_succ, List.replicate_zero, List.cons_append, List.nil_append, Nat.reduceAdd, Nat.reduceSub])
local macro_rules | `(tactic| fail "da") => `(tactic| first
  | exact DpAll.nil
  | (apply DpAll.cons; (first | exact Dp.int _ | (apply Dp.tup; fail "st"; fail "da") | (apply Dp.lst; fail "sl"; fail "da") | exact Dp.bl _ | exact Dp.str _); fail "da"))
local macro_rules | `(tactic| fail "dp") => `(tactic| first
  | exact Dp.int _
  | (apply Dp.tup; fail "st"; fail "da")
  | (apply Dp.lst; fail "sl"; fail "da"))
local macro_rules | `(tactic| fail "so") => `(tactic| first
  | (apply sx_upd; fail "so")
  | (apply sx_mut; fail "so"; fail "nn")
  | (apply sx_of; fail "sm"))
local macro_rules | `(tactic| fail "lg") => `(tactic| (refine PyProof.Rows.int_text_len_1921 (lg_small ?_); omega))
local macro_rules | `(tactic| fail "sx1") => `(tactic| (conv => whnf); first
  | (refine fun _ => ?_; fail "nw"; first | fail "un" | skip)
  | (refine fun _ => ?_)
  | (refine wipe_1 (by decide) ?_; fail "ns")
  | (refine wipe_2 (by decide) (by decide) ?_; fail "ns")
  | (refine ⟨_, rfl, ?_⟩)
  | (refine ⟨rfl, ?_⟩)
  | (refine ⟨_, _, rfl, rfl, ?_⟩)
  | (refine ⟨_, _, rfl, ?_⟩)
  | (refine ⟨_, _, _, rfl, ?_⟩)
  | apply un_forR
  | (apply un_forL; fail "sl")
  | (apply un_forT; fail "st")
  | (apply un_forZ; fail "sl")
  | (apply un_forZT; fail "st")
  | (apply un_forZM; fail "sl")
  | (apply un_forE; fail "st")
  | apply un_inR
  | (apply tyI; fail "sl")
  | (apply dpI; fail "dp"; fail "dp"; rfl; rfl)
  | (apply gtI; fail "st"; rfl)
  | apply isi_ii
  | apply isi_ib
  | (apply isi_tt; fail "st")
  | refine divN1 ?_
  | (apply nx_range; exact Nat.le_of_ble_eq_true rfl)
  | (apply nx_list; fail "sl"; rfl)
  | (apply nx_tup; fail "st"; rfl)
  | (apply nx_zip; fail "sl"; fail "sl"; rfl; rfl)
  | (apply nx_zipT; fail "st"; fail "st"; rfl; rfl)
  | (apply nx_zipM; fail "sl"; fail "st"; rfl; rfl)
  | (apply nx_enumT; fail "st"; rfl)
  | (apply st_range; fail "ln")
  | (apply st_list; fail "sl"; fail "ln")
  | (apply st_tup; fail "st"; fail "ln")
  | (apply st_zip; fail "sl"; fail "sl"; fail "ln")
  | (apply st_zipT; fail "st"; fail "st"; fail "ln")
  | (apply st_zipM; fail "sl"; fail "st"; rfl; rfl)
  | (apply st_enumT; fail "st"; rfl)
  | (apply mulR; with_reducible assumption)
  | (apply mulL; with_reducible assumption)
  | (apply accI; fail "lk"; fail "ln")
  | (apply apdI; fail "lk"; fail "ln")
  | (apply ixLI; fail "sl"; rfl)
  | (apply ixTI; fail "st"; rfl)
  | (apply setI; fail "lk"; rfl)
  | (apply slLI; fail "sl")
  | (apply sum2I; fail "sl")
  | (apply rep2I; fail "lk"; exact Nat.le_of_ble_eq_true rfl)
  | (refine And.intro (lg_small ?_) ?_; omega)
  | (apply joinI3; fail "sl"; fail "lg"; fail "lg"; fail "lg"; decide)
  | (apply enI; fail "st")
  | (apply enL; fail "sl")
  | (apply ppL; fail "sl")
  | (apply ppT; fail "st")
  | (apply pqL; fail "sl")
  | (apply pqT; fail "st")
  | (apply pzL; fail "sl"; fail "sl")
  | (apply pzT; fail "st"; fail "st")
  | (apply pzM; fail "sl"; fail "st")
  | (refine Or.inl ⟨_, rfl, ?_⟩)
  | (refine Or.inr ⟨_, rfl, ?_⟩)
  | (apply pxL; fail "sl")
  | (apply pxT; fail "st")
  | (refine iteTI rfl ?_)
  | (refine iteFI Bool.false_ne_true ?_)
  | (refine iteTI ?_ ?_; (simp [*]; done))
  | (refine iteFI ?_ ?_; (simp [*]; done))
  | (refine And.intro ?_ ?_; first | decide | (simp only [List.length_append, List.length_cons, List.length_nil]; decide)))
local macro_rules | `(tactic| fail "sx") => `(tactic| repeat (fail "sx1"))
local macro_rules | `(tactic| fail "tx1") => `(tactic| (conv => whnf); first
  | (refine fun _ => ?_; fail "nw")
  | (refine fun _ => ?_)
  | (refine wipe_1 (by decide) ?_; fail "ns")
  | (refine wipe_2 (by decide) (by decide) ?_; fail "ns")
  | (refine ⟨_, rfl, ?_⟩)
  | (refine ⟨rfl, ?_⟩)
  | (refine ⟨_, _, rfl, rfl, ?_⟩)
  | (refine ⟨_, _, rfl, ?_⟩)
  | (refine ⟨_, _, _, rfl, ?_⟩)
  | apply un_forR
  | (apply un_forL; fail "sl")
  | (apply un_forT; fail "st")
  | (apply un_forZ; fail "sl")
  | (apply un_forZT; fail "st")
  | (apply un_forZM; fail "sl")
  | (apply un_forE; fail "st")
  | apply un_inR
  | (apply tyI; fail "sl")
  | (apply dpI; fail "dp"; fail "dp"; rfl; rfl)
  | (apply gtI; fail "st"; rfl)
  | apply isi_ii
  | apply isi_ib
  | (apply isi_tt; fail "st")
  | refine divN1 ?_
  | (apply nx_range; exact Nat.le_of_ble_eq_true rfl)
  | (apply nx_list; fail "sl"; rfl)
  | (apply nx_tup; fail "st"; rfl)
  | (apply nx_zip; fail "sl"; fail "sl"; rfl; rfl)
  | (apply nx_zipT; fail "st"; fail "st"; rfl; rfl)
  | (apply nx_zipM; fail "sl"; fail "st"; rfl; rfl)
  | (apply nx_enumT; fail "st"; rfl)
  | (apply st_range; fail "ln")
  | (apply st_list; fail "sl"; fail "ln")
  | (apply st_tup; fail "st"; fail "ln")
  | (apply st_zip; fail "sl"; fail "sl"; fail "ln")
  | (apply st_zipT; fail "st"; fail "st"; fail "ln")
  | (apply st_zipM; fail "sl"; fail "st"; rfl; rfl)
  | (apply st_enumT; fail "st"; rfl)
  | (apply mulR; with_reducible assumption)
  | (apply mulL; with_reducible assumption)
  | (apply accI; fail "lk"; fail "ln")
  | (apply apdI; fail "lk"; fail "ln")
  | (apply ixLI; fail "sl"; rfl)
  | (apply ixTI; fail "st"; rfl)
  | (apply setI; fail "lk"; rfl)
  | (apply slLI; fail "sl")
  | (apply sum2I; fail "sl")
  | (apply rep2I; fail "lk"; exact Nat.le_of_ble_eq_true rfl)
  | (refine And.intro (lg_small ?_) ?_; omega)
  | (apply joinI3; fail "sl"; fail "lg"; fail "lg"; fail "lg"; decide)
  | (apply enI; fail "st")
  | (apply enL; fail "sl")
  | (apply ppL; fail "sl")
  | (apply ppT; fail "st")
  | (apply pqL; fail "sl")
  | (apply pqT; fail "st")
  | (apply pzL; fail "sl"; fail "sl")
  | (apply pzT; fail "st"; fail "st")
  | (apply pzM; fail "sl"; fail "st")
  | (refine Or.inl ⟨_, rfl, ?_⟩)
  | (refine Or.inr ⟨_, rfl, ?_⟩)
  | (apply pxL; fail "sl")
  | (apply pxT; fail "st")
  | (refine iteTI rfl ?_)
  | (refine iteFI Bool.false_ne_true ?_)
  | (refine iteTI ?_ ?_; (simp [*]; done))
  | (refine iteFI ?_ ?_; (simp [*]; done))
  | (refine And.intro ?_ ?_; first | decide | (simp only [List.length_append, List.length_cons, List.length_nil]; decide)))
local macro_rules | `(tactic| fail "tx") => `(tactic| repeat (fail "tx1"))
local macro_rules | `(tactic| fail "om") => `(tactic| first
  | omega
  | (dsimp only; omega)
  | (split <;> omega)
  | (dsimp only; split <;> omega))
local macro_rules | `(tactic| fail "bx1") => `(tactic| first
  | (refine iteD (fun _ => ?_) (fun _ => ?_))
  | (refine iteN (fun _ => ?_) (fun _ => ?_))
  | (refine iteE (fun _ => ?_) (fun _ => ?_))
  | (refine iteTI rfl ?_)
  | (refine iteFI Bool.false_ne_true ?_)
  | (refine ⟨_, rfl, ?_⟩)
  | (refine ⟨_, _, rfl, rfl, ?_⟩)
  | (refine ⟨rfl, ?_⟩)
  | (refine ⟨_, _, rfl, ?_⟩)
  | (apply mulR; with_reducible assumption)
  | (apply mulL; with_reducible assumption)
  | (apply mulL; refine ⟨?_, ?_⟩ <;> fail "om")
  | (apply powI; fail "om"))
local macro_rules | `(tactic| fail "bx") => `(tactic| repeat' (fail "bx1"))

section
variable {P : Program} {w : World} {K : PySem.W.Frag} {mg : Str → Option Value} {base : Heap} {f : Addr} {fd : FuncData} {C : Addr}
structure spEqF (K : PySem.W.Frag) (C : Addr) (vs : List V) (H : Hp) (Q : VK) (E : XK) : Prop where
  ex : ∃ a b t u, vs = [.ref a, .ref b] ∧ FormAt K C H a t ∧ FormAt K C H b u ∧ Q (.bl (decide (t = u))) H
theorem ok_eq (T : Tx K mg) (CF : FormF K mg C) (IF : InsF K C) (F : FnM K "__eq__" "Form.__eq__" s_Form__eq f fd) : FnOk P w K mg base CX0 1 f fd ps_Form__eq (spEqF K C) := by
  refine F.ok sc_Form__eq (fun vs H Q E h => ?_) (fun cdv A outer s H vs Q E hr h => ?_)
  · obtain ⟨a, b, t, u, rfl, _⟩ := h
    rfl
  · obtain ⟨a, b, t, u, rfl, ⟨dx, q, w, r, p, h1, h2, h3⟩, ⟨dx', q', w', r', p', h1', h2', h3'⟩, k⟩ := h
    refine ⟨_, PSs.nox (pss_cons (ps_if (pt_not (pt_val (pe_callB (k_isi (K := K) rfl) (by rfl) T.b_isinstance (by decide +kernel) (pa_cons (pv 1) (pa_cons (pe_glob (by rfl) CF.nm (show RelV (.ref C) (.ref C) from rfl) (by decide)) pa_nil)))))
    (pss_one (ps_ret pe_bl))
    pss_nil)
    (pss_one (ps_ret (pe_cmpR (k_eq (K := K) rfl hr.units) (pe_ix (k_ixt (K := K) rfl) (k_fld (K := K) rfl (pv 0)) pe_int (fun _ _ => rfl)) (pe_ix (k_ixt (K := K) rfl) (k_fld (K := K) rfl (pv 1)) pe_int (fun _ _ => rfl)) (nomark _))))), ?_⟩
    fail "sx"
    refine isi_own IF CF.cls h1' ?_
    fail "sx"
    refine fgI h1 CF.cls CF.nh rfl ?_
    fail "sx"
    refine ⟨q, _, 0, _, rfl, rfl, h2, at0, ?_⟩
    fail "sx"
    refine fgI h1' CF.cls CF.nh rfl ?_
    fail "sx"
    refine ⟨q', _, 0, _, rfl, rfl, h2', at0, ?_⟩
    fail "sx"
    refine blI k ?_
    exact d3_eqv t u
end
end G41
set_option Elab.async false
set_option linter.all false
set_option maxRecDepth 100000
set_option maxHeartbeats 4000000
namespace G41
open PySem PySem.Spec PyProof.Rows L2
/-! != of two instances by their own == -/
section
variable {prog : Program} {w : World} {A : Around} {E : Value → Shared → Prop} {s : Shared} {K : PySem.W.Frag} {x y C f : Addr} {ox : Obj} {od : Option Obj}
theorem ne_entry (hu : A.units < cLine) (X : K.In s.heap) (I : PySem.W.InstAt s.heap x ox C od) (hs : PySem.W.findIn K (.ref C) "__eq__" = some (some (.ref f))) (hf : PySem.W.isFn K (.ref f) = true) {Q : Fin → Shared → Prop}
    (h : wpAny (model prog w) A (call (.ref f) [.ref x, .ref y]) (fun v s' => ∃ b, v = .bool b ∧ Q (.done (.ret (.bool (!b)))) s') E s) : wpAny (model prog w) A (Builtin.«object.__ne__» ⟨[.ref x, .ref y], []⟩) Q E s := by
  obtain ⟨hp, g, d, t, os⟩ := s
  unfold Builtin.«object.__ne__»
  repeat (first
    | with_reducible refine wpAny_cRoomFor hu ?_
    | (refine wpAny_bind (m := callSpecialIfBound? (.ref x) (Str.ofString "__eq__") [.ref y])
        (PySem.W.ifBound_K X I hs hf (wpAny_mono h (fun v s' hr => by
          obtain ⟨b, rfl, hq⟩ := hr
          repeat (first | exact hq | exact wpAny_pure hq | exact wpAny_truthy_bool hq | (refine wpAny_bind (m := truthy (.bool _)) (wpAny_truthy_bool ?_)) | wp_step)) fun _ _ e => e)))
    | wp_step)
theorem ifBound_objNe {M : Model} {args : List Value} {Q : Option Value → Shared → Prop} (X : K.In s.heap) (I : PySem.W.InstAt s.heap x ox C od) (hs : PySem.W.findIn K (.ref C) "__ne__" = some (some (.builtin "object.__ne__")))
    (h : wpAny M A (call (.builtin "object.__ne__") (.ref x :: args)) (fun v => Q (some v)) E s) : wpAny M A (callSpecialIfBound? (.ref x) "__ne__" args) Q E s := by
  simp only [callSpecialIfBound?, bindSpecialIfBound?]
  refine wpAny_holding (wpAny_bind (wpAny_bind (wpAny_bind (I.type.here ((PySem.W.looks_findIn X hs).here ?_)))))
  refine wpAny_bind (wpAny_askSetting (wpAny_ite ?_))
  have fin : wpAny M A (call (.builtin "object.__ne__") ([.ref x] ++ args) >>= fun v => pure (some v)) Q E s := wpAny_bind (wpAny_mono h (fun v s' h' => wpAny_pure h') fun _ _ h' => h')
  split
  · exact wpAny_bind (wpAny_of_eq (F.cmp_object.ne.bind _) (wpAny_pure (by exact fin)))
  · exact wpAny_tryCatch (wpAny_bind (wpAny_of_eq (F.cmp_object.ne.bind _) (wpAny_pure (by exact fin))))
theorem ne_K (hu : A.units + 1 < cLine) (X : K.In s.heap) (I : PySem.W.InstAt s.heap x ox C od) (hy : PySem.W.Looks (model prog w) s.heap (typeOf (.ref y)) (.ref C)) (hm : PySem.W.mroIn K C (.type "object") = some true)
    (hn : PySem.W.findIn K (.ref C) "__ne__" = some (some (.builtin "object.__ne__"))) (hs : PySem.W.findIn K (.ref C) "__eq__" = some (some (.ref f))) (hf : PySem.W.isFn K (.ref f) = true) {Q : Value → Shared → Prop}
    (h : wpAny (model prog w) A.in1 (call (.ref f) [.ref x, .ref y]) (fun v s' => ∃ b, v = .bool b ∧ Q (.bool (!b)) s') E s) : wpAny (model prog w) A (compareOp .NotEq (.ref x) (.ref y)) Q E s := by
  have one : wpAny (model prog w) A (tryCompare (.ref x) "__ne__" (.ref y)) (fun r s' => ∃ b, r = some (.bool b) ∧ Q (.bool b) s') E s := by
    unfold tryCompare
    refine wpAny_bind (ifBound_objNe X I hn (wpAny_call (codeAny_call_builtin F.cmp_object.ne.plain F.cmpEntry_ne (PySem.W.check_slot F.cmpKind_ne F.cmpSplit_ne (I.type.andThen (PySem.W.looks_mroIn X hm)) (F.cmpArgs_ne _ _)
      (ne_entry (A := A.in1) (by show A.units + 1 < cLine; exact hu) X I hs hf (wpAny_mono h (fun v s' hv => ?_) fun _ _ e => e))))))
    obtain ⟨b, rfl, q⟩ := hv
    exact ⟨b, rfl, wpAny_pure ⟨!b, rfl, q⟩⟩
  show wpAny _ _ (richCompare .NotEq (.ref x) (.ref y)) _ _ _
  unfold richCompare
  simp only [oneThing_ref]
  refine wpAny_holding (wpAny_bind (wpAny_cRoomFor (Nat.lt_of_succ_lt hu) ?_))
  rw [cmpInfo_NotEq]
  dsimp only
  refine wpAny_bind (I.type.here (wpAny_bind (hy.here ?_)))
  rw [show (Value.ref C != Value.ref C) = false from by simp]
  simp only [Bool.false_eq_true, if_false]
  refine wpAny_bind (wpAny_pure ?_)
  simp only [Bool.false_eq_true, if_false]
  refine wpAny_bind (wpAny_mono one (fun v s' hv => ?_) fun _ _ e => e)
  obtain ⟨b, rfl, hq⟩ := hv
  exact wpAny_pure hq
end
/-- the class's own == -/
structure EqF (P : Program) (w : World) (K : PySem.W.Frag) (mg : Str → Option Value) (base : Heap) (C : Addr) : Prop where
  mro : PySem.W.mroIn K C (.type "object") = some true
  ne : PySem.W.findIn K (.ref C) "__ne__" = some (some (.builtin "object.__ne__"))
  ex : ∃ f fd, PySem.W.findIn K (.ref C) "__eq__" = some (some (.ref f)) ∧ PySem.W.isFn K (.ref f) = true ∧ Binds K fd ps_Form__eq [] ∧ FnOk P w K mg base CX0 1 f fd ps_Form__eq (spEqF K C)
def rNeF (K : PySem.W.Frag) (C : Addr) : R2 := fun x y H Q => ∃ a b t u, x = .ref a ∧ y = .ref b ∧ FormAt K C H a t ∧ FormAt K C H b u ∧ Q (.bl (!decide (t = u))) H
section
variable {X : Cx} {C : Addr} {j : Nat}
theorem call_eqF {f : Addr} {fd : FuncData} {pins : List (Addr × Obj)} {s : Shared} {σ : L2.St} {H : Hp} {a b : Addr} {t u : T3} {Q : Value → Shared → Prop} (F : FnOk X.prog X.w X.K X.mg X.base CX0 1 f fd ps_Form__eq (spEqF X.K C)) (hb : Binds X.K fd ps_Form__eq [])
    {A : Around} (hr : Room 1 A) (e0 : Env0 X.prog X.w X.K X.mg X.base A X.stack s H) (I : Inv X pins σ H s) (ha : FormAt X.K C H a t) (hb' : FormAt X.K C H b u) (q : ∀ s', Inv X pins σ H s' → Q (.bool (decide (t = u))) s') :
    wpAny (model X.prog X.w) A (call (.ref f) [.ref a, .ref b]) Q X.xe s := by
  refine wpAny_call (codeAny_mono (F.run A X.stack s H ⟨[.ref a, .ref b], []⟩ [.ref a, .ref b] [.ref a, .ref b] (fun v H' => v = .bl (decide (t = u)) ∧ H' = H) E0 hr e0 (by simpa using hb s [.ref a, .ref b] I.kIn rfl) (.cons rfl (.cons rfl .nil)) ⟨⟨a, b, t, u, rfl, ha, hb', rfl, rfl⟩⟩) fun r s' hq => ?_)
  cases r with
  | error e => exact (pass0 : Passes CX0 X E0) pins σ H s e s' I hq
  | ok fl =>
    cases fl with
    | ret v =>
      obtain ⟨z, H', I', rz, ez, eh⟩ := I.after hq
      subst ez
      subst eh
      cases rz
      exact q s' I'
    | next => exact False.elim hq
    | brk => exact False.elim hq
    | cont => exact False.elim hq
theorem op_neF (M : EqF X.prog X.w X.K X.mg X.base C) (hr : Room j X.A) (hj : 3 ≤ j := by decide) : OpR X (compareOp .NotEq) (rNeF X.K C) := by
  intro pins s σ H x y v u Q I rx ry h
  obtain ⟨hm, hn, f, fd, hs, hf, hb, F⟩ := M
  obtain ⟨a, b, t, t', rfl, rfl, ha, hb', q⟩ := h
  cases rx
  cases ry
  have hr2 := hr.mono (show 2 ≤ j by omega)
  obtain ⟨dx, _, _, _, _, e1, _⟩ := id ha
  obtain ⟨dx', _, _, _, _, e2, _⟩ := id hb'
  obtain ⟨mA, J, _⟩ := ins_get I.hok e1
  obtain ⟨mB, J', _⟩ := ins_get I.hok e2
  obtain ⟨od, J, _⟩ := J.look
  obtain ⟨od', J', _⟩ := J'.look
  refine ne_K hr2.in1.units0 I.kIn J J'.type hm hn hs hf ?_
  exact call_eqF F hb hr2.in1 I.env0.in1 I ha hb' fun s' I' => ⟨_, rfl, .bl _, H, I', rfl, q⟩
end
end G41
set_option Elab.async false
set_option linter.all false
set_option maxRecDepth 100000
set_option maxHeartbeats 4000000
namespace G41
open PySem PySem.Spec PyProof.Rows L2
abbrev s_ring_from : Stmt := top 59
abbrev nm_ring_from : List Str := ["form", "found", "change", "later", "step"]
abbrev ps_ring_from : List Str := ["form"]
theorem sc_ring_from : FnScope nm_ring_from ps_ring_from (defScope s_ring_from) := ⟨rfl, rfl, rfl, by decide +kernel, rfl, by decide +kernel, by decide +kernel⟩
theorem k_neF {X : Cx} {K : PySem.W.Frag} {C : Addr} {j : Nat} (h : X.K = K) (M : EqF X.prog X.w X.K X.mg X.base C) (hr : Room j X.A) (hj : 3 ≤ j := by decide) : OpR X (compareOp .NotEq) (rNeF K C) := h ▸ op_neF M hr hj
/-- tuples of a Form and a table -/
def PairsAt (K : PySem.W.Frag) (C : Addr) (H : Hp) (ps : List Addr) (ts : List T3) : Prop := ps.length = ts.length ∧ ∀ (i : Nat) p u, ps[i]? = some p → ts[i]? = some u → ∃ f c, SqT K H p [.ref f, .ref c] ∧ FormAt K C H f u
theorem pairs_same {K : PySem.W.Frag} {C : Addr} {H H' : Hp} {ps : List Addr} {ts : List T3} (h : PairsAt K C H ps ts) (e : Same H H') : PairsAt K C H' ps ts :=
  ⟨h.1, fun i p u a b => let ⟨f, c, h1, h2⟩ := h.2 i p u a b; ⟨f, c, same_tup e h1, form_same h2 e⟩⟩
theorem form_upd {K : PySem.W.Frag} {C : Addr} {H : Hp} {f a : Addr} {t : T3} {zs : List V} {o : HO} (ha : H a = some (.lst zs)) (h : FormAt K C H f t) : FormAt K C (upd H a o) f t := by
  obtain ⟨dx, q, w, r, p, h1, h2, h3⟩ := h
  exact ⟨dx, q, w, r, p, (upd_ne (fun e => by rw [e, ha] at h1; cases h1)).trans h1, tup_upd ha h2, (upd_ne (fun e => by rw [e, ha] at h3; cases h3)).trans h3⟩
theorem pairs_upd {K : PySem.W.Frag} {C : Addr} {H : Hp} {a : Addr} {ps : List Addr} {ts : List T3} {zs : List V} {o : HO} (ha : H a = some (.lst zs)) (h : PairsAt K C H ps ts) : PairsAt K C (upd H a o) ps ts :=
  ⟨h.1, fun i p u x y => let ⟨f, c, h1, h2⟩ := h.2 i p u x y; ⟨f, c, tup_upd ha h1, form_upd ha h2⟩⟩
theorem pairs_add {K : PySem.W.Frag} {C : Addr} {H : Hp} {ps : List Addr} {ts : List T3} {p f c : Addr} {u : T3} (h : PairsAt K C H ps ts) (h1 : SqT K H p [.ref f, .ref c]) (h2 : FormAt K C H f u) : PairsAt K C H (ps ++ [p]) (ts ++ [u]) := by
  refine ⟨by rw [List.length_append, List.length_append, h.1]; rfl, fun i q v a b => ?_⟩
  rcases Nat.lt_trichotomy i ps.length with z | z | z
  · rw [List.getElem?_append_left z] at a
    rw [List.getElem?_append_left (by rw [← h.1]; exact z)] at b
    exact h.2 i q v a b
  · subst z
    rw [List.getElem?_append_right (Nat.le_refl _), Nat.sub_self] at a
    rw [List.getElem?_append_right (by rw [h.1]; exact Nat.le_refl _), h.1, Nat.sub_self] at b
    cases a
    cases b
    exact ⟨f, c, h1, h2⟩
  · rw [List.getElem?_eq_none (by rw [List.length_append]; show ps.length + 1 ≤ i; omega)] at a
    cases a
theorem ringC_split {n : Nat} {g t : T3} {rs : List T3} (h : ringC n g t = some rs) : bndC t = true ∧ ∃ k, n = k + 1 ∧ ((t = g ∧ rs = []) ∨ (t ≠ g ∧ ∃ r', rs = t :: r' ∧ ringC k g (stepM t) = some r')) := by
  cases n with
  | zero => cases h
  | succ k =>
    unfold ringC at h
    by_cases hb : bndC t = true
    · rw [if_pos hb] at h
      refine ⟨hb, k, rfl, ?_⟩
      by_cases hr : t = g
      · rw [if_pos hr] at h
        exact .inl ⟨hr, (Option.some.inj h).symm⟩
      · rw [if_neg hr] at h
        cases e : ringC k g (stepM t) with
        | none => rw [e] at h; cases h
        | some r' => rw [e] at h; exact .inr ⟨hr, r', (Option.some.inj h).symm, rfl⟩
    · rw [if_neg hb] at h
      cases h
theorem pairs_nil {K : PySem.W.Frag} {C : Addr} {H : Hp} : PairsAt K C H [] [] := ⟨rfl, fun i p u a => by cases a⟩
structure RI (K : PySem.W.Frag) (C : Addr) (H : Hp) (a q : Addr) (t : T3) (rs : List T3) (m : Nat) (σ : L2.St) (H' : Hp) : Prop where
  ex : ∃ p l st u v k ps dn rest t', σ = [some (.ref a), some (.ref q), some (.ref p), some (.ref l), some (.ref st)] ∧ Same H H' ∧ H' q = some (.lst (ps.map V.ref)) ∧ PairsAt K C H' ps (t :: dn) ∧ rs = dn ++ rest ∧ ringC m t t' = some rest ∧
    FormAt K C H' l t' ∧ Tb K H' p ∧ SqT K H' st [.ref u, .ref v] ∧ SqT K H' u [.int 0, .int (-1)] ∧ SqT K H' v [.int 1, .int k] ∧ Sm k ∧ ps.length + m ≤ 2000
local macro_rules | `(tactic| fail "rd1") => `(tactic| first
  | refine ⟨_, rfl, ?_⟩
  | refine ⟨_, _, rfl, rfl, ?_⟩
  | refine ⟨rfl, ?_⟩
  | refine ⟨_, _, rfl, ?_⟩
  | refine ⟨_, _, _, rfl, ?_⟩
  | fail)
local macro_rules | `(tactic| fail "rd") => `(tactic| repeat (fail "rd1"))
local macro_rules | `(tactic| fail "nn") => `(tactic| first
  | with_reducible assumption
  | (apply lkn; fail "ne"; fail "nn")
  | (apply none_same; with_reducible assumption; fail "sm"))
local macro_rules | `(tactic| fail "ne") => `(tactic| first
  | with_reducible assumption
  | exact (old_ne (by with_reducible assumption) (by with_reducible assumption)).1
  | exact (old_ne (by with_reducible assumption) (by with_reducible assumption)).2
  | (apply ne_new1; with_reducible assumption; fail "lk")
  | (apply ne_new2; with_reducible assumption; fail "lk"))
local macro_rules | `(tactic| fail "lk") => `(tactic| first
  | with_reducible assumption
  | exact upd_same
  | (apply lkn; fail "ne"; fail "lk")
  | (apply same_upd; with_reducible assumption; fail "lk"))
local macro_rules | `(tactic| fail "sm") => `(tactic| first
  | with_reducible assumption
  | exact Same.refl _
  | (apply same_mut; fail "sm"; fail "nn")
  | (apply trans_same; with_reducible assumption; fail "sm"))
local macro_rules | `(tactic| fail "sl") => `(tactic| first
  | with_reducible assumption
  | (apply lst_same; with_reducible assumption; fail "sm")
  | (apply SqL.of; fail "lk")
  | (apply lst_new; fail "nn"; fail "sl")
  | (apply lst_updn; fail "ne"; fail "sl")
  | (apply lst_trans; with_reducible assumption; fail "sl"))
local macro_rules | `(tactic| fail "st") => `(tactic| first
  | with_reducible assumption
  | (apply tup_same; with_reducible assumption; fail "sm")
  | (apply SqT.of; fail "lk")
  | (apply tup_new; fail "nn"; fail "st")
  | (apply tup_upd; fail "lk"; fail "st")
  | (apply tup_trans; with_reducible assumption; fail "st")
  | (apply tup_updI; fail "lk"; fail "st"))
local macro_rules | `(tactic| fail "nw") => `(tactic| (repeat (refine nwI (fun _ _ => ?_))); refine fun _ => ?_)
local macro_rules | `(tactic| fail "ln") => `(tactic| first
  | exact lenLt (Nat.le_of_ble_eq_true rfl)
  | exact Nat.le_of_ble_eq_true rfl)
local macro_rules | `(tactic| fail "un") => `(tactic| first
  | apply un_lcR
  | (refine un_lc2 2 ?_)
  | (apply un_lcL; fail "sl")
  | (apply un_lcT; fail "st")
  | (apply un_lcZ; fail "sl")
  | (apply un_lcZT; fail "st")
  | (apply un_lcZM; fail "sl"))
local macro_rules | `(tactic| fail "uf") => `(tactic| first
  | apply un_forR
  | (apply un_forL; fail "sl")
  | (apply un_forT; fail "st")
  | (apply un_forZ; fail "sl")
  | (apply un_forZT; fail "st")
  | (apply un_forZM; fail "sl")
  | (apply un_forE; fail "st"))
local macro_rules | `(tactic| fail "ns") => `(tactic| try simp only [wipe, L2.start, List.set_cons_zero, List.set_cons_succ, List.map_cons, List.map_nil, List.length_cons, List.length_nil, List.replicate_succ, List.replicate_zero, List.cons_append, List.nil_append, Nat.reduceAdd, Nat.reduceSub])
local macro_rules | `(tactic| fail "da") => `(tactic| first
  | exact DpAll.nil
  | (apply DpAll.cons; (first | exact Dp.int _ | (apply Dp.tup; fail "st"; fail "da") | (apply Dp.lst; fail "sl"; fail "da") | exact Dp.bl _ | exact Dp.str _); fail "da"))
local macro_rules | `(tactic| fail "dp") => `(tactic| first
  | exact Dp.int _
  | (apply Dp.tup; fail "st"; fail "da")
  | (apply Dp.lst; fail "sl"; fail "da"))
local macro_rules | `(tactic| fail "so") => `(tactic| first
  | (apply sx_upd; fail "so")
  | (apply sx_mut; fail "so"; fail "nn")
  | (apply sx_of; fail "sm"))
local macro_rules | `(tactic| fail "lg") => `(tactic| (refine PyProof.Rows.int_text_len_1921 (lg_small ?_); omega))
local macro_rules | `(tactic| fail "sx1") => `(tactic| (conv => whnf); first
  | (refine fun _ => ?_; fail "nw"; first | fail "un" | skip)
  | (refine fun _ => ?_)
  | (refine wipe_1 (by decide) ?_; fail "ns")
  | (refine wipe_2 (by decide) (by decide) ?_; fail "ns")
  | (refine ⟨_, rfl, ?_⟩)
  | (refine ⟨rfl, ?_⟩)
  | (refine ⟨_, _, rfl, rfl, ?_⟩)
  | (refine ⟨_, _, rfl, ?_⟩)
  | (refine ⟨_, _, _, rfl, ?_⟩)
  | apply un_forR
  | (apply un_forL; fail "sl")
  | (apply un_forT; fail "st")
  | (apply un_forZ; fail "sl")
  | (apply un_forZT; fail "st")
  | (apply un_forZM; fail "sl")
  | (apply un_forE; fail "st")
  | apply un_inR
  | (apply tyI; fail "sl")
  | (apply dpI; fail "dp"; fail "dp"; rfl; rfl)
  | (apply gtI; fail "st"; rfl)
  | apply isi_ii
  | apply isi_ib
  | (apply isi_tt; fail "st")
  | refine divN1 ?_
  | (apply nx_range; exact Nat.le_of_ble_eq_true rfl)
  | (apply nx_list; fail "sl"; rfl)
  | (apply nx_tup; fail "st"; rfl)
  | (apply nx_zip; fail "sl"; fail "sl"; rfl; rfl)
  | (apply nx_zipT; fail "st"; fail "st"; rfl; rfl)
  | (apply nx_zipM; fail "sl"; fail "st"; rfl; rfl)
  | (apply nx_enumT; fail "st"; rfl)
  | (apply st_range; fail "ln")
  | (apply st_list; fail "sl"; fail "ln")
  | (apply st_tup; fail "st"; fail "ln")
  | (apply st_zip; fail "sl"; fail "sl"; fail "ln")
  | (apply st_zipT; fail "st"; fail "st"; fail "ln")
  | (apply st_zipM; fail "sl"; fail "st"; rfl; rfl)
  | (apply st_enumT; fail "st"; rfl)
  | (apply mulR; with_reducible assumption)
  | (apply mulL; with_reducible assumption)
  | (apply accI; fail "lk"; fail "ln")
  | (apply apdI; fail "lk"; fail "ln")
  | (apply ixLI; fail "sl"; rfl)
  | (apply ixTI; fail "st"; rfl)
  | (apply setI; fail "lk"; rfl)
  | (apply slLI; fail "sl")
  | (apply sum2I; fail "sl")
  | (apply rep2I; fail "lk"; exact Nat.le_of_ble_eq_true rfl)
  | (refine And.intro (lg_small ?_) ?_; omega)
  | (apply joinI3; fail "sl"; fail "lg"; fail "lg"; fail "lg"; decide)
  | (apply enI; fail "st")
  | (apply enL; fail "sl")
  | (apply ppL; fail "sl")
  | (apply ppT; fail "st")
  | (apply pqL; fail "sl")
  | (apply pqT; fail "st")
  | (apply pzL; fail "sl"; fail "sl")
  | (apply pzT; fail "st"; fail "st")
  | (apply pzM; fail "sl"; fail "st")
  | (refine Or.inl ⟨_, rfl, ?_⟩)
  | (refine Or.inr ⟨_, rfl, ?_⟩)
  | (apply pxL; fail "sl")
  | (apply pxT; fail "st")
  | (refine iteTI rfl ?_)
  | (refine iteFI Bool.false_ne_true ?_)
  | (refine iteTI ?_ ?_; (simp [*]; done))
  | (refine iteFI ?_ ?_; (simp [*]; done))
  | (refine And.intro ?_ ?_; first | decide | (simp only [List.length_append, List.length_cons, List.length_nil]; decide)))
local macro_rules | `(tactic| fail "sx") => `(tactic| repeat (fail "sx1"))
local macro_rules | `(tactic| fail "tx1") => `(tactic| (conv => whnf); first
  | (refine fun _ => ?_; fail "nw")
  | (refine fun _ => ?_)
  | (refine wipe_1 (by decide) ?_; fail "ns")
  | (refine wipe_2 (by decide) (by decide) ?_; fail "ns")
  | (refine ⟨_, rfl, ?_⟩)
  | (refine ⟨rfl, ?_⟩)
  | (refine ⟨_, _, rfl, rfl, ?_⟩)
  | (refine ⟨_, _, rfl, ?_⟩)
  | (refine ⟨_, _, _, rfl, ?_⟩)
  | apply un_forR
  | (apply un_forL; fail "sl")
  | (apply un_forT; fail "st")
  | (apply un_forZ; fail "sl")
  | (apply un_forZT; fail "st")
  | (apply un_forZM; fail "sl")
  | (apply un_forE; fail "st")
  | apply un_inR
  | (apply tyI; fail "sl")
  | (apply dpI; fail "dp"; fail "dp"; rfl; rfl)
  | (apply gtI; fail "st"; rfl)
  | apply isi_ii
  | apply isi_ib
  | (apply isi_tt; fail "st")
  | refine divN1 ?_
  | (apply nx_range; exact Nat.le_of_ble_eq_true rfl)
  | (apply nx_list; fail "sl"; rfl)
  | (apply nx_tup; fail "st"; rfl)
  | (apply nx_zip; fail "sl"; fail "sl"; rfl; rfl)
  | (apply nx_zipT; fail "st"; fail "st"; rfl; rfl)
  | (apply nx_zipM; fail "sl"; fail "st"; rfl; rfl)
  | (apply nx_enumT; fail "st"; rfl)
  | (apply st_range; fail "ln")
  | (apply st_list; fail "sl"; fail "ln")
  | (apply st_tup; fail "st"; fail "ln")
  | (apply st_zip; fail "sl"; fail "sl"; fail "ln")
  | (apply st_zipT; fail "st"; fail "st"; fail "ln")
  | (apply st_zipM; fail "sl"; fail "st"; rfl; rfl)
  | (apply st_enumT; fail "st"; rfl)
  | (apply mulR; with_reducible assumption)
  | (apply mulL; with_reducible assumption)
  | (apply accI; fail "lk"; fail "ln")
  | (apply apdI; fail "lk"; fail "ln")
  | (apply ixLI; fail "sl"; rfl)
  | (apply ixTI; fail "st"; rfl)
  | (apply setI; fail "lk"; rfl)
  | (apply slLI; fail "sl")
  | (apply sum2I; fail "sl")
  | (apply rep2I; fail "lk"; exact Nat.le_of_ble_eq_true rfl)
  | (refine And.intro (lg_small ?_) ?_; omega)
  | (apply joinI3; fail "sl"; fail "lg"; fail "lg"; fail "lg"; decide)
  | (apply enI; fail "st")
  | (apply enL; fail "sl")
  | (apply ppL; fail "sl")
  | (apply ppT; fail "st")
  | (apply pqL; fail "sl")
  | (apply pqT; fail "st")
  | (apply pzL; fail "sl"; fail "sl")
  | (apply pzT; fail "st"; fail "st")
  | (apply pzM; fail "sl"; fail "st")
  | (refine Or.inl ⟨_, rfl, ?_⟩)
  | (refine Or.inr ⟨_, rfl, ?_⟩)
  | (apply pxL; fail "sl")
  | (apply pxT; fail "st")
  | (refine iteTI rfl ?_)
  | (refine iteFI Bool.false_ne_true ?_)
  | (refine iteTI ?_ ?_; (simp [*]; done))
  | (refine iteFI ?_ ?_; (simp [*]; done))
  | (refine And.intro ?_ ?_; first | decide | (simp only [List.length_append, List.length_cons, List.length_nil]; decide)))
local macro_rules | `(tactic| fail "tx") => `(tactic| repeat (fail "tx1"))
local macro_rules | `(tactic| fail "om") => `(tactic| first
  | omega
  | (dsimp only; omega)
  | (split <;> omega)
  | (dsimp only; split <;> omega))
local macro_rules | `(tactic| fail "bx1") => `(tactic| first
  | (refine iteD (fun _ => ?_) (fun _ => ?_))
  | (refine iteN (fun _ => ?_) (fun _ => ?_))
  | (refine iteE (fun _ => ?_) (fun _ => ?_))
  | (refine iteTI rfl ?_)
  | (refine iteFI Bool.false_ne_true ?_)
  | (refine ⟨_, rfl, ?_⟩)
  | (refine ⟨_, _, rfl, rfl, ?_⟩)
  | (refine ⟨rfl, ?_⟩)
  | (refine ⟨_, _, rfl, ?_⟩)
  | (apply mulR; with_reducible assumption)
  | (apply mulL; with_reducible assumption)
  | (apply mulL; refine ⟨?_, ?_⟩ <;> fail "om")
  | (apply powI; fail "om"))
local macro_rules | `(tactic| fail "bx") => `(tactic| repeat' (fail "bx1"))

section
variable {P : Program} {w : World} {K : PySem.W.Frag} {mg : Str → Option Value} {base : Heap} {f : Addr} {fd : FuncData} {C : Addr}
structure spRing (K : PySem.W.Frag) (C : Addr) (vs : List V) (H : Hp) (Q : VK) (E : XK) : Prop where
  ex : ∃ a t n rs, vs = [.ref a] ∧ FormAt K C H a t ∧ bndC t = true ∧ n ≤ 1000 ∧ ((dsc t < 0 ∧ rs = []) ∨ (¬ dsc t < 0 ∧ bndC (stepM t) = true ∧ ringC n t (stepM t) = some rs)) ∧
    ∀ H' q ps, Same H H' → H q = none → H' q = some (.lst (ps.map V.ref)) → PairsAt K C H' ps (t :: rs) → Q (.ref q) H'
theorem ok_ring_from (T : Tx K mg) (EF : EqF P w K mg base C) (C_unit_table : Cal P w K mg base 1 "unit_table" ps_unit_table (spUnit K)) (C_joined_tables : Cal P w K mg base 2 "joined_tables" ps_joined_tables (spJoined K))
    (C_discriminant_for : Cal P w K mg base 3 "discriminant_for" ps_discriminant_for (spDsc K C)) (C_stepped : Cal P w K mg base 8 "stepped" ps_stepped (spStep K C))
    (F : FnP K "ring_from" s_ring_from f fd) : FnOk P w K mg base CX0 9 f fd ps_ring_from (spRing K C) := by
  refine F.ok sc_ring_from (fun vs H Q E h => ?_) (fun cdv A outer s H vs Q E hr h => ?_)
  · obtain ⟨a, t, n, rs, rfl, _⟩ := h
    rfl
  · obtain ⟨a, t, n, rs, rfl, hf, hb, hn, hc, k⟩ := h
    refine ⟨_, PSs.nox (pss_cons (ps_par (i := 1) (j := 2) rfl sc_ring_from.nd rfl rfl (by decide) rfl rfl (pa_cons (pe_lst (pa_cons (pe_tup (pa_cons (pv 0) (pa_cons (pe_cal C_unit_table hr (pa_cons pe_int pa_nil)) pa_nil))) pa_nil)) (pa_cons (pe_cal C_unit_table hr (pa_cons pe_int pa_nil)) pa_nil)) (by rfl))
    (pss_cons (ps_if (pt_cmpR op_lt (pe_cal C_discriminant_for hr (pa_cons (pv 0) pa_nil)) pe_int (nomark _))
    (pss_one (ps_ret (pv 1)))
    pss_nil)
    (pss_cons (ps_asg (pe_cal C_stepped hr (pa_cons (pv 0) pa_nil)) (k_tup (K := K) (n := 2) rfl (by rfl) (pgs_cons (pg_name (i := 3) sc_ring_from.nd rfl (by first | exact Or.inl rfl | exact Or.inr rfl)) (pgs_cons (pg_name (i := 4) sc_ring_from.nd rfl (by first | exact Or.inl rfl | exact Or.inr rfl)) pgs_nil))))
    (pss_cons (ps_while PassesOwn.never (pt_cmpR (k_neF (K := K) rfl EF hr) (pv 3) (pv 0) (nomark _))
    (pss_cons (ps_set (i := 2) sc_ring_from.nd rfl (Or.inl rfl) (pe_cal C_joined_tables hr (pa_cons (pv 2) (pa_cons (pv 4) pa_nil))))
    (pss_cons (ps_expr (pe_bm PySem.F.plainAttrs_list PySem.F.slot_list_append PySem.F.type_list_append mt_append (pv 1) (pa_cons (pe_tup (pa_cons (pv 3) (pa_cons (pv 2) pa_nil))) pa_nil)))
    (pss_one (ps_asg (pe_cal C_stepped hr (pa_cons (pv 3) pa_nil)) (k_tup (K := K) (n := 2) rfl (by rfl) (pgs_cons (pg_name (i := 3) sc_ring_from.nd rfl (by first | exact Or.inl rfl | exact Or.inr rfl)) (pgs_cons (pg_name (i := 4) sc_ring_from.nd rfl (by first | exact Or.inl rfl | exact Or.inr rfl)) pgs_nil))))))))
    (pss_one (ps_ret (pv 1))))))), ?_⟩
    fail "sx"
    rename_i Hu pu ru su _ _ _ _ eu u1 u2 u3 T hT q n1 n2 hq H2 p2 r2 s2 y1 y2 y3 y4 e2 v1 v2 v3
    have sH2 : Same H H2 := eu.trans ((same_new hT).trans ((same_new ((upd_ne n1).trans hq)).trans e2))
    have q0 : H q = none := same_none eu hq
    have hq2 : H2 q = some (.lst ([T].map V.ref)) := e2 _ _ upd_same
    have hT2 : SqT K H2 T [.ref a, .ref pu] := same_tup e2 (SqT.of ((upd_ne n2).trans upd_same))
    have hP : PairsAt K C H2 [T] [t] := pairs_add pairs_nil hT2 (form_same hf sH2)
    refine ⟨⟨a, t, rfl, form_same hf sH2, (bnd_of hb).2.1, ?_⟩⟩
    fail "rd"
    refine iteD (fun h4 => ?_) (fun h4 => ?_)
    · rcases hc with ⟨_, rfl⟩ | ⟨h5, _⟩
      · fail "rd"
        exact k H2 q [T] sH2 q0 hq2 hP
      · exact absurd h4 h5
    · rcases hc with ⟨h5, _⟩ | ⟨_, hb2, hc⟩
      · exact absurd h5 h4
      fail "rd"
      refine ⟨⟨a, t, rfl, form_same hf sH2, hb, hb2, fun H3 q3 g u v w' k' e3 hq3 hg0 hg hu hv hw hk => ?_⟩⟩
      fail "sx"
      refine ⟨fun m σ H' => RI K C H a q t rs m σ H', ⟨n, ⟨p2, g, u, v, w', k', [T], [], rs, stepM t, rfl, sH2.trans e3, e3 _ _ hq2, pairs_same hP e3, rfl, hc, hg, ⟨r2, s2, y1, y2, y3, y4, same_tup e3 v1, same_tup e3 v2, same_tup e3 v3⟩, hu, hv, hw, hk, by show 1 + n ≤ 2000; omega⟩⟩, ?_⟩
      rintro m σ H' ⟨p, l, st, u, v, k', ps, dn, rest, t', rfl, hs, hq', hP', hrs, hR, hl, hTb, hst, hu, hv, hk, hlen⟩
      obtain ⟨hbt, j, rfl, hc2⟩ := ringC_split hR
      fail "rd"
      refine ⟨l, a, t', t, rfl, rfl, hl, form_same hf hs, ?_⟩
      fail "rd"
      rcases hc2 with ⟨h6, rfl⟩ | ⟨h6, r', rfl, h7⟩
      · refine iteFI (by simp [h6]) ?_
        fail "rd"
        rw [List.append_nil] at hrs
        rw [hrs] at k
        exact k H' q ps hs q0 hq' hP'
      · refine iteTI (by simp [h6]) ⟨_, fun _ _ h => h, ?_⟩
        obtain ⟨hb3, _⟩ := ringC_split h7
        obtain ⟨r3, s3, x1, x2, x3, x4, j1, j2, j3⟩ := hTb
        fail "rd"
        refine ⟨⟨p, r3, s3, x1, x2, x3, x4, st, u, v, 0, -1, 1, k', rfl, j1, j2, j3, hst, hu, hv, ⟨by decide, by decide⟩, ⟨by decide, by decide⟩, ⟨by decide, by decide⟩, hk, fun H4 p4 r4 s4 z1 z2 z3 z4 e4 g1 g2 g3 => ?_⟩⟩
        fail "rd"
        have hq4 := e4 _ _ hq'
        refine ⟨.inl ⟨rfl, _, SqL.of hq4⟩, ?_⟩
        fail "rd"
        refine ⟨by show 2 ≤ sizeLine; decide, fun T2 hT2 => ?_⟩
        have nq : q ≠ T2 := fun e => by rw [e, hT2] at hq4; cases hq4
        have hq5 : upd H4 T2 (.tup [.ref l, .ref p4]) q = some (.lst (ps.map V.ref)) := (upd_ne nq).trans hq4
        refine ⟨_, _, _, rfl, rfl, hq5, by rw [List.length_map]; exact Nat.lt_of_le_of_lt (show ps.length ≤ 2000 by omega) (by decide), ?_⟩
        have s5 : Same H' (upd H4 T2 (.tup [.ref l, .ref p4])) := e4.trans (same_new hT2)
        have hl5 : FormAt K C (upd (upd H4 T2 (.tup [.ref l, .ref p4])) q (.lst (ps.map V.ref ++ [.ref T2]))) l t' := form_upd hq5 (form_same hl s5)
        fail "rd"
        refine ⟨⟨l, t', rfl, hl5, hbt, hb3, fun H6 q6 g6 u6 v6 w6 k6 e6 hq6 hg60 hg6 hu6 hv6 hw6 hk6 => ?_⟩⟩
        fail "sx"
        have s6 : Same H (upd (upd H4 T2 (.tup [.ref l, .ref p4])) q (.lst (ps.map V.ref ++ [.ref T2]))) := same_mut (hs.trans s5) q0
        have P5 : PairsAt K C (upd (upd H4 T2 (.tup [.ref l, .ref p4])) q (.lst (ps.map V.ref ++ [.ref T2]))) (ps ++ [T2]) ((t :: dn) ++ [t']) :=
          pairs_add (pairs_upd hq5 (pairs_same hP' s5)) (tup_upd hq5 (SqT.of upd_same)) hl5
        refine ⟨j, Nat.lt_succ_self _, ⟨p4, g6, u6, v6, w6, k6, ps ++ [T2], dn ++ [t'], r', stepM t', rfl, s6.trans e6, ?_, pairs_same P5 e6, ?_, h7, hg6, ⟨r4, s4, z1, z2, z3, z4, ?_, ?_, ?_⟩, hu6, hv6, hw6, hk6, ?_⟩⟩
        · rw [List.map_append]; exact e6 _ _ upd_same
        · rw [hrs, List.append_assoc]; rfl
        · exact same_tup e6 (tup_upd hq5 (tup_new hT2 g1))
        · exact same_tup e6 (tup_upd hq5 (tup_new hT2 g2))
        · exact same_tup e6 (tup_upd hq5 (tup_new hT2 g3))
        · rw [List.length_append]; show ps.length + 1 + j ≤ 2000; omega
end
end G41
set_option Elab.async false
set_option linter.all false
set_option maxRecDepth 100000
set_option maxHeartbeats 4000000
namespace G41
open PySem PySem.Spec PyProof.Rows L2
abbrev s_law_d : Stmt := top 70
abbrev nm_law_d : List Str := ["_law_own"]
abbrev ps_law_d : List Str := ["_law_own"]
theorem sc_law_d : FnScope nm_law_d ps_law_d (defScope s_law_d) := ⟨rfl, rfl, rfl, by decide +kernel, rfl, by decide +kernel, by decide +kernel⟩
abbrev s_law_gcd : Stmt := top 72
abbrev nm_law_gcd : List Str := ["_law_one", "_law_two"]
abbrev ps_law_gcd : List Str := ["_law_one", "_law_two"]
theorem sc_law_gcd : FnScope nm_law_gcd ps_law_gcd (defScope s_law_gcd) := ⟨rfl, rfl, rfl, by decide +kernel, rfl, by decide +kernel, by decide +kernel⟩
abbrev s_law_root : Stmt := top 71
abbrev nm_law_root : List Str := ["_law_value_here", "_law_found", "_law_step"]
abbrev ps_law_root : List Str := ["_law_value_here"]
theorem sc_law_root : FnScope nm_law_root ps_law_root (defScope s_law_root) := ⟨rfl, rfl, rfl, by decide +kernel, rfl, by decide +kernel, by decide +kernel⟩
abbrev s_law_reduced : Stmt := top 78
abbrev nm_law_reduced : List Str := ["_law_own", "_law_whole_here", "_law_a", "_law_b", "_law_c", "_law_less", "_law_more"]
abbrev ps_law_reduced : List Str := ["_law_own"]
theorem sc_law_reduced : FnScope nm_law_reduced ps_law_reduced (defScope s_law_reduced) := ⟨rfl, rfl, rfl, by decide +kernel, rfl, by decide +kernel, by decide +kernel⟩
abbrev s_law_dip : Stmt := top 75
abbrev nm_law_dip : List Str := ["_law_jar_here", "_law_top", "_law_digit"]
abbrev ps_law_dip : List Str := ["_law_jar_here", "_law_top"]
theorem sc_law_dip : FnScope nm_law_dip ps_law_dip (defScope s_law_dip) := ⟨rfl, rfl, rfl, by decide +kernel, rfl, by decide +kernel, by decide +kernel⟩
local macro_rules | `(tactic| fail "rd1") => `(tactic| first
  | refine ⟨_, rfl, ?_⟩
  | refine ⟨_, _, rfl, rfl, ?_⟩
  | refine ⟨rfl, ?_⟩
  | refine ⟨_, _, rfl, ?_⟩
  | refine ⟨_, _, _, rfl, ?_⟩
  | fail)
local macro_rules | `(tactic| fail "rd") => `(tactic| repeat (fail "rd1"))
local macro_rules | `(tactic| fail "nn") => `(tactic| first
  | with_reducible assumption
  | (apply lkn; fail "ne"; fail "nn")
  | (apply none_same; with_reducible assumption; fail "sm"))
local macro_rules | `(tactic| fail "ne") => `(tactic| first
  | with_reducible assumption
  | exact (old_ne (by with_reducible assumption) (by with_reducible assumption)).1
  | exact (old_ne (by with_reducible assumption) (by with_reducible assumption)).2
  | (apply ne_new1; with_reducible assumption; fail "lk")
  | (apply ne_new2; with_reducible assumption; fail "lk"))
local macro_rules | `(tactic| fail "lk") => `(tactic| first
  | with_reducible assumption
  | exact upd_same
  | (apply lkn; fail "ne"; fail "lk")
  | (apply same_upd; with_reducible assumption; fail "lk"))
local macro_rules | `(tactic| fail "sm") => `(tactic| first
  | with_reducible assumption
  | exact Same.refl _
  | (apply same_mut; fail "sm"; fail "nn")
  | (apply trans_same; with_reducible assumption; fail "sm"))
local macro_rules | `(tactic| fail "sl") => `(tactic| first
  | with_reducible assumption
  | (apply lst_same; with_reducible assumption; fail "sm")
  | (apply SqL.of; fail "lk")
  | (apply lst_new; fail "nn"; fail "sl")
  | (apply lst_updn; fail "ne"; fail "sl")
  | (apply lst_trans; with_reducible assumption; fail "sl"))
local macro_rules | `(tactic| fail "st") => `(tactic| first
  | with_reducible assumption
  | (apply tup_same; with_reducible assumption; fail "sm")
  | (apply SqT.of; fail "lk")
  | (apply tup_new; fail "nn"; fail "st")
  | (apply tup_upd; fail "lk"; fail "st")
  | (apply tup_trans; with_reducible assumption; fail "st")
  | (apply tup_updI; fail "lk"; fail "st"))
local macro_rules | `(tactic| fail "nw") => `(tactic| (repeat (refine nwI (fun _ _ => ?_))); refine fun _ => ?_)
local macro_rules | `(tactic| fail "ln") => `(tactic| first
  | exact lenLt (Nat.le_of_ble_eq_true rfl)
  | exact Nat.le_of_ble_eq_true rfl)
local macro_rules | `(tactic| fail "un") => `(tactic| first
  | apply un_lcR
  | (refine un_lc2 2 ?_)
  | (apply un_lcL; fail "sl")
  | (apply un_lcT; fail "st")
  | (apply un_lcZ; fail "sl")
  | (apply un_lcZT; fail "st")
  | (apply un_lcZM; fail "sl"))
local macro_rules | `(tactic| fail "uf") => `(tactic| first
  | apply un_forR
  | (apply un_forL; fail "sl")
  | (apply un_forT; fail "st")
  | (apply un_forZ; fail "sl")
  | (apply un_forZT; fail "st")
  | (apply un_forZM; fail "sl")
  | (apply un_forE; fail "st"))
local macro_rules | `(tactic| fail "ns") => `(tactic| try simp only [wipe, L2.start, List.set_cons_zero, List.set_cons_succ, List.map_cons, List.map_nil, List.length_cons, List.length_nil, List.replicate_succ, List.replicate_zero, List.cons_append, List.nil_append, Nat.reduceAdd, Nat.reduceSub])
local macro_rules | `(tactic| fail "da") => `(tactic| first
  | exact DpAll.nil
  | (apply DpAll.cons; (first | exact Dp.int _ | (apply Dp.tup; fail "st"; fail "da") | (apply Dp.lst; fail "sl"; fail "da") | exact Dp.bl _ | exact Dp.str _); fail "da"))
local macro_rules | `(tactic| fail "dp") => `(tactic| first
  | exact Dp.int _
  | (apply Dp.tup; fail "st"; fail "da")
  | (apply Dp.lst; fail "sl"; fail "da"))
local macro_rules | `(tactic| fail "so") => `(tactic| first
  | (apply sx_upd; fail "so")
  | (apply sx_mut; fail "so"; fail "nn")
  | (apply sx_of; fail "sm"))
local macro_rules | `(tactic| fail "lg") => `(tactic| (refine PyProof.Rows.int_text_len_1921 (lg_small ?_); omega))
local macro_rules | `(tactic| fail "sx1") => `(tactic| (conv => whnf); first
  | (refine fun _ => ?_; fail "nw"; first | fail "un" | skip)
  | (refine fun _ => ?_)
  | (refine wipe_1 (by decide) ?_; fail "ns")
  | (refine wipe_2 (by decide) (by decide) ?_; fail "ns")
  | (refine ⟨_, rfl, ?_⟩)
  | (refine ⟨rfl, ?_⟩)
  | (refine ⟨_, _, rfl, rfl, ?_⟩)
  | (refine ⟨_, _, rfl, ?_⟩)
  | (refine ⟨_, _, _, rfl, ?_⟩)
  | apply un_forR
  | (apply un_forL; fail "sl")
  | (apply un_forT; fail "st")
  | (apply un_forZ; fail "sl")
  | (apply un_forZT; fail "st")
  | (apply un_forZM; fail "sl")
  | (apply un_forE; fail "st")
  | apply un_inR
  | (apply tyI; fail "sl")
  | (apply dpI; fail "dp"; fail "dp"; rfl; rfl)
  | (apply gtI; fail "st"; rfl)
  | apply isi_ii
  | apply isi_ib
  | (apply isi_tt; fail "st")
  | refine divN1 ?_
  | (apply nx_range; exact Nat.le_of_ble_eq_true rfl)
  | (apply nx_list; fail "sl"; rfl)
  | (apply nx_tup; fail "st"; rfl)
  | (apply nx_zip; fail "sl"; fail "sl"; rfl; rfl)
  | (apply nx_zipT; fail "st"; fail "st"; rfl; rfl)
  | (apply nx_zipM; fail "sl"; fail "st"; rfl; rfl)
  | (apply nx_enumT; fail "st"; rfl)
  | (apply st_range; fail "ln")
  | (apply st_list; fail "sl"; fail "ln")
  | (apply st_tup; fail "st"; fail "ln")
  | (apply st_zip; fail "sl"; fail "sl"; fail "ln")
  | (apply st_zipT; fail "st"; fail "st"; fail "ln")
  | (apply st_zipM; fail "sl"; fail "st"; rfl; rfl)
  | (apply st_enumT; fail "st"; rfl)
  | (apply mulR; with_reducible assumption)
  | (apply mulL; with_reducible assumption)
  | (apply accI; fail "lk"; fail "ln")
  | (apply apdI; fail "lk"; fail "ln")
  | (apply ixLI; fail "sl"; rfl)
  | (apply ixTI; fail "st"; rfl)
  | (apply setI; fail "lk"; rfl)
  | (apply slLI; fail "sl")
  | (apply sum2I; fail "sl")
  | (apply rep2I; fail "lk"; exact Nat.le_of_ble_eq_true rfl)
  | (refine And.intro (lg_small ?_) ?_; omega)
  | (apply joinI3; fail "sl"; fail "lg"; fail "lg"; fail "lg"; decide)
  | (apply enI; fail "st")
  | (apply enL; fail "sl")
  | (apply ppL; fail "sl")
  | (apply ppT; fail "st")
  | (apply pqL; fail "sl")
  | (apply pqT; fail "st")
  | (apply pzL; fail "sl"; fail "sl")
  | (apply pzT; fail "st"; fail "st")
  | (apply pzM; fail "sl"; fail "st")
  | (refine Or.inl ⟨_, rfl, ?_⟩)
  | (refine Or.inr ⟨_, rfl, ?_⟩)
  | (apply pxL; fail "sl")
  | (apply pxT; fail "st")
  | (refine iteTI rfl ?_)
  | (refine iteFI Bool.false_ne_true ?_)
  | (refine iteTI ?_ ?_; (simp [*]; done))
  | (refine iteFI ?_ ?_; (simp [*]; done))
  | (refine And.intro ?_ ?_; first | decide | (simp only [List.length_append, List.length_cons, List.length_nil]; decide)))
local macro_rules | `(tactic| fail "sx") => `(tactic| repeat (fail "sx1"))
local macro_rules | `(tactic| fail "tx1") => `(tactic| (conv => whnf); first
  | (refine fun _ => ?_; fail "nw")
  | (refine fun _ => ?_)
  | (refine wipe_1 (by decide) ?_; fail "ns")
  | (refine wipe_2 (by decide) (by decide) ?_; fail "ns")
  | (refine ⟨_, rfl, ?_⟩)
  | (refine ⟨rfl, ?_⟩)
  | (refine ⟨_, _, rfl, rfl, ?_⟩)
  | (refine ⟨_, _, rfl, ?_⟩)
  | (refine ⟨_, _, _, rfl, ?_⟩)
  | apply un_forR
  | (apply un_forL; fail "sl")
  | (apply un_forT; fail "st")
  | (apply un_forZ; fail "sl")
  | (apply un_forZT; fail "st")
  | (apply un_forZM; fail "sl")
  | (apply un_forE; fail "st")
  | apply un_inR
  | (apply tyI; fail "sl")
  | (apply dpI; fail "dp"; fail "dp"; rfl; rfl)
  | (apply gtI; fail "st"; rfl)
  | apply isi_ii
  | apply isi_ib
  | (apply isi_tt; fail "st")
  | refine divN1 ?_
  | (apply nx_range; exact Nat.le_of_ble_eq_true rfl)
  | (apply nx_list; fail "sl"; rfl)
  | (apply nx_tup; fail "st"; rfl)
  | (apply nx_zip; fail "sl"; fail "sl"; rfl; rfl)
  | (apply nx_zipT; fail "st"; fail "st"; rfl; rfl)
  | (apply nx_zipM; fail "sl"; fail "st"; rfl; rfl)
  | (apply nx_enumT; fail "st"; rfl)
  | (apply st_range; fail "ln")
  | (apply st_list; fail "sl"; fail "ln")
  | (apply st_tup; fail "st"; fail "ln")
  | (apply st_zip; fail "sl"; fail "sl"; fail "ln")
  | (apply st_zipT; fail "st"; fail "st"; fail "ln")
  | (apply st_zipM; fail "sl"; fail "st"; rfl; rfl)
  | (apply st_enumT; fail "st"; rfl)
  | (apply mulR; with_reducible assumption)
  | (apply mulL; with_reducible assumption)
  | (apply accI; fail "lk"; fail "ln")
  | (apply apdI; fail "lk"; fail "ln")
  | (apply ixLI; fail "sl"; rfl)
  | (apply ixTI; fail "st"; rfl)
  | (apply setI; fail "lk"; rfl)
  | (apply slLI; fail "sl")
  | (apply sum2I; fail "sl")
  | (apply rep2I; fail "lk"; exact Nat.le_of_ble_eq_true rfl)
  | (refine And.intro (lg_small ?_) ?_; omega)
  | (apply joinI3; fail "sl"; fail "lg"; fail "lg"; fail "lg"; decide)
  | (apply enI; fail "st")
  | (apply enL; fail "sl")
  | (apply ppL; fail "sl")
  | (apply ppT; fail "st")
  | (apply pqL; fail "sl")
  | (apply pqT; fail "st")
  | (apply pzL; fail "sl"; fail "sl")
  | (apply pzT; fail "st"; fail "st")
  | (apply pzM; fail "sl"; fail "st")
  | (refine Or.inl ⟨_, rfl, ?_⟩)
  | (refine Or.inr ⟨_, rfl, ?_⟩)
  | (apply pxL; fail "sl")
  | (apply pxT; fail "st")
  | (refine iteTI rfl ?_)
  | (refine iteFI Bool.false_ne_true ?_)
  | (refine iteTI ?_ ?_; (simp [*]; done))
  | (refine iteFI ?_ ?_; (simp [*]; done))
  | (refine And.intro ?_ ?_; first | decide | (simp only [List.length_append, List.length_cons, List.length_nil]; decide)))
local macro_rules | `(tactic| fail "tx") => `(tactic| repeat (fail "tx1"))
local macro_rules | `(tactic| fail "om") => `(tactic| first
  | omega
  | (dsimp only; omega)
  | (split <;> omega)
  | (dsimp only; split <;> omega))
local macro_rules | `(tactic| fail "bx1") => `(tactic| first
  | (refine iteD (fun _ => ?_) (fun _ => ?_))
  | (refine iteN (fun _ => ?_) (fun _ => ?_))
  | (refine iteE (fun _ => ?_) (fun _ => ?_))
  | (refine iteTI rfl ?_)
  | (refine iteFI Bool.false_ne_true ?_)
  | (refine ⟨_, rfl, ?_⟩)
  | (refine ⟨_, _, rfl, rfl, ?_⟩)
  | (refine ⟨rfl, ?_⟩)
  | (refine ⟨_, _, rfl, ?_⟩)
  | (apply mulR; with_reducible assumption)
  | (apply mulL; with_reducible assumption)
  | (apply mulL; refine ⟨?_, ?_⟩ <;> fail "om")
  | (apply powI; fail "om"))
local macro_rules | `(tactic| fail "bx") => `(tactic| repeat' (fail "bx1"))

section
variable {P : Program} {w : World} {K : PySem.W.Frag} {mg : Str → Option Value} {base : Heap} {f : Addr} {fd : FuncData} {C : Addr}
structure spLd (K : PySem.W.Frag) (vs : List V) (H : Hp) (Q : VK) (E : XK) : Prop where
  ex : ∃ a t, vs = [.ref a] ∧ T3At K H a t ∧ Sml t ∧ Q (.int (dsc t)) H
theorem ok_law_d (T : Tx K mg) (F : FnP K "_law_d" s_law_d f fd) : FnOk P w K mg base CX0 1 f fd ps_law_d (spLd K) := by
  refine F.ok sc_law_d (fun vs H Q E h => ?_) (fun cdv A outer s H vs Q E hr h => ?_)
  · obtain ⟨a, t, rfl, _⟩ := h
    rfl
  · obtain ⟨a, ⟨x, y, z⟩, rfl, hp, ⟨b1, b2, b3⟩, k⟩ := h
    refine ⟨_, PSs.nox (pss_one (ps_ret (pe_op op_sub (pe_op op_mul (pe_ix (k_ixt (K := K) rfl) (pv 0) pe_int (fun _ _ => rfl)) (pe_ix (k_ixt (K := K) rfl) (pv 0) pe_int (fun _ _ => rfl))) (pe_op op_mul (pe_op op_mul pe_int (pe_ix (k_ixt (K := K) rfl) (pv 0) pe_int (fun _ _ => rfl))) (pe_ix (k_ixt (K := K) rfl) (pv 0) pe_int (fun _ _ => rfl)))))), ?_⟩
    simp only at b1 b2 b3
    have mx : Sm x := ⟨by omega, by omega⟩
    have my : Sm y := ⟨by omega, by omega⟩
    have mz : Sm z := ⟨by omega, by omega⟩
    replace hp : SqT K H a [.int x, .int y, .int z] := hp
    fail "sx"
    exact k
theorem ok_law_gcd (T : Tx K mg) (F : FnP K "_law_gcd" s_law_gcd f fd) : FnOk P w K mg base CX0 1 f fd ps_law_gcd spGcd := by
  refine F.ok sc_law_gcd (fun vs H Q E h => ?_) (fun cdv A outer s H vs Q E hr h => ?_)
  · obtain ⟨a, b, rfl, _⟩ := h
    rfl
  · obtain ⟨a, b, rfl, k⟩ := h
    refine ⟨_, PSs.nox (pss_cons (ps_par (i := 0) (j := 1) rfl sc_law_gcd.nd rfl rfl (by decide) rfl rfl (pa_cons (pe_callB call_abs (by rfl) T.b_abs (by decide +kernel) (pa_cons (pv 0) pa_nil)) (pa_cons (pe_callB call_abs (by rfl) T.b_abs (by decide +kernel) (pa_cons (pv 1) pa_nil)) pa_nil)) (by rfl))
    (pss_cons (ps_while PassesOwn.never (pt_cmpR op_gt (pv 1) pe_int (nomark _))
    (pss_one (ps_par (i := 0) (j := 1) rfl sc_law_gcd.nd rfl rfl (by decide) rfl rfl (pa_cons (pv 1) (pa_cons (pe_op op_mod (pe_callTy call_int1 (by rfl) T.b_int (by decide +kernel) (pa_cons (pv 0) pa_nil)) (pv 1)) pa_nil)) (by rfl))))
    (pss_one (ps_ret (pv 0))))), ?_⟩
    fail "rd"
    refine ⟨fun m σ H' => ∃ x y : Int, σ = [some (.int x), some (.int y)] ∧ Same H H' ∧ 0 ≤ x ∧ 0 ≤ y ∧ Int.gcd x y = Int.gcd a b ∧ m = y.toNat, ⟨_, _, _, rfl, Same.refl _, ?_, ?_, ?_, rfl⟩, ?_⟩
    · split <;> omega
    · split <;> omega
    · split <;> split <;> simp [Int.gcd_neg, Int.neg_gcd]
    · rintro m σ H' ⟨x, y, rfl, hs, hx, hy, hg, rfl⟩
      fail "rd"
      refine iteD (fun h0 => ?_) (fun h0 => ?_)
      · refine ⟨_, fun _ _ h => h, ?_⟩
        fail "rd"
        refine .inl ⟨_, rfl, ?_⟩
        fail "rd"
        refine ⟨h0, ?_⟩
        fail "rd"
        refine ⟨_, ?_, _, _, rfl, hs, hy, Int.emod_nonneg _ (by omega), ?_, rfl⟩
        · have := Int.emod_lt_of_pos x h0
          have := Int.emod_nonneg x (show y ≠ 0 by omega)
          omega
        · rw [← hg]
          obtain ⟨x', rfl⟩ := Int.eq_ofNat_of_zero_le hx
          obtain ⟨y', rfl⟩ := Int.eq_ofNat_of_zero_le hy
          show Nat.gcd (y' : Int).natAbs ((x' : Int) % (y' : Int)).natAbs = Nat.gcd (x' : Int).natAbs (y' : Int).natAbs
          rw [← Int.natCast_emod]
          simp only [Int.natAbs_natCast]
          rw [Nat.gcd_comm x' y', Nat.gcd_rec y' x', Nat.gcd_comm]
      · fail "rd"
        have h1 : y = 0 := by omega
        subst h1
        rw [Int.gcd_zero_right] at hg
        have e : (x : Int) = ((Int.gcd a b : Nat) : Int) := by rw [← hg]; omega
        rw [e]
        exact k _ hs
end
end G41
set_option Elab.async false
set_option linter.all false
set_option maxRecDepth 100000
set_option maxHeartbeats 4000000
namespace G41
open PySem PySem.Spec PyProof.Rows L2
local macro_rules | `(tactic| fail "rd1") => `(tactic| first
  | refine ⟨_, rfl, ?_⟩
  | refine ⟨_, _, rfl, rfl, ?_⟩
  | refine ⟨rfl, ?_⟩
  | refine ⟨_, _, rfl, ?_⟩
  | refine ⟨_, _, _, rfl, ?_⟩
  | fail)
local macro_rules | `(tactic| fail "rd") => `(tactic| repeat (fail "rd1"))
local macro_rules | `(tactic| fail "nn") => `(tactic| first
  | with_reducible assumption
  | (apply lkn; fail "ne"; fail "nn")
  | (apply none_same; with_reducible assumption; fail "sm"))
local macro_rules | `(tactic| fail "ne") => `(tactic| first
  | with_reducible assumption
  | exact (old_ne (by with_reducible assumption) (by with_reducible assumption)).1
  | exact (old_ne (by with_reducible assumption) (by with_reducible assumption)).2
  | (apply ne_new1; with_reducible assumption; fail "lk")
  | (apply ne_new2; with_reducible assumption; fail "lk"))
local macro_rules | `(tactic| fail "lk") => `(tactic| first
  | with_reducible assumption
  | exact upd_same
  | (apply lkn; fail "ne"; fail "lk")
  | (apply same_upd; with_reducible assumption; fail "lk"))
local macro_rules | `(tactic| fail "sm") => `(tactic| first
  | with_reducible assumption
  | exact Same.refl _
  | (apply same_mut; fail "sm"; fail "nn")
  | (apply trans_same; with_reducible assumption; fail "sm"))
local macro_rules | `(tactic| fail "sl") => `(tactic| first
  | with_reducible assumption
  | (apply lst_same; with_reducible assumption; fail "sm")
  | (apply SqL.of; fail "lk")
  | (apply lst_new; fail "nn"; fail "sl")
  | (apply lst_updn; fail "ne"; fail "sl")
  | (apply lst_trans; with_reducible assumption; fail "sl"))
local macro_rules | `(tactic| fail "st") => `(tactic| first
  | with_reducible assumption
  | (apply tup_same; with_reducible assumption; fail "sm")
  | (apply SqT.of; fail "lk")
  | (apply tup_new; fail "nn"; fail "st")
  | (apply tup_upd; fail "lk"; fail "st")
  | (apply tup_trans; with_reducible assumption; fail "st")
  | (apply tup_updI; fail "lk"; fail "st"))
local macro_rules | `(tactic| fail "nw") => `(tactic| (repeat (refine nwI (fun _ _ => ?_))); refine fun _ => ?_)
local macro_rules | `(tactic| fail "ln") => `(tactic| first
  | exact lenLt (Nat.le_of_ble_eq_true rfl)
  | exact Nat.le_of_ble_eq_true rfl)
local macro_rules | `(tactic| fail "un") => `(tactic| first
  | apply un_lcR
  | (refine un_lc2 2 ?_)
  | (apply un_lcL; fail "sl")
  | (apply un_lcT; fail "st")
  | (apply un_lcZ; fail "sl")
  | (apply un_lcZT; fail "st")
  | (apply un_lcZM; fail "sl"))
local macro_rules | `(tactic| fail "uf") => `(tactic| first
  | apply un_forR
  | (apply un_forL; fail "sl")
  | (apply un_forT; fail "st")
  | (apply un_forZ; fail "sl")
  | (apply un_forZT; fail "st")
  | (apply un_forZM; fail "sl")
  | (apply un_forE; fail "st"))
local macro_rules | `(tactic| fail "ns") => `(tactic| try simp only [wipe, L2.start, List.set_cons_zero, List.set_cons_succ, List.map_cons, List.map_nil, List.length_cons, List.length_nil, List.replicate_succ, List.replicate_zero, List.cons_append, List.nil_append, Nat.reduceAdd, Nat.reduceSub])
local macro_rules | `(tactic| fail "da") => `(tactic| first
  | exact DpAll.nil
  | (apply DpAll.cons; (first | exact Dp.int _ | (apply Dp.tup; fail "st"; fail "da") | (apply Dp.lst; fail "sl"; fail "da") | exact Dp.bl _ | exact Dp.str _); fail "da"))
local macro_rules | `(tactic| fail "dp") => `(tactic| first
  | exact Dp.int _
  | (apply Dp.tup; fail "st"; fail "da")
  | (apply Dp.lst; fail "sl"; fail "da"))
local macro_rules | `(tactic| fail "so") => `(tactic| first
  | (apply sx_upd; fail "so")
  | (apply sx_mut; fail "so"; fail "nn")
  | (apply sx_of; fail "sm"))
local macro_rules | `(tactic| fail "lg") => `(tactic| (refine PyProof.Rows.int_text_len_1921 (lg_small ?_); omega))
local macro_rules | `(tactic| fail "sx1") => `(tactic| (conv => whnf); first
  | (refine fun _ => ?_; fail "nw"; first | fail "un" | skip)
  | (refine fun _ => ?_)
  | (refine wipe_1 (by decide) ?_; fail "ns")
  | (refine wipe_2 (by decide) (by decide) ?_; fail "ns")
  | (refine ⟨_, rfl, ?_⟩)
  | (refine ⟨rfl, ?_⟩)
  | (refine ⟨_, _, rfl, rfl, ?_⟩)
  | (refine ⟨_, _, rfl, ?_⟩)
  | (refine ⟨_, _, _, rfl, ?_⟩)
  | apply un_forR
  | (apply un_forL; fail "sl")
  | (apply un_forT; fail "st")
  | (apply un_forZ; fail "sl")
  | (apply un_forZT; fail "st")
  | (apply un_forZM; fail "sl")
  | (apply un_forE; fail "st")
  | apply un_inR
  | (apply tyI; fail "sl")
  | (apply dpI; fail "dp"; fail "dp"; rfl; rfl)
  | (apply gtI; fail "st"; rfl)
  | apply isi_ii
  | apply isi_ib
  | (apply isi_tt; fail "st")
  | refine divN1 ?_
  | (apply nx_range; exact Nat.le_of_ble_eq_true rfl)
  | (apply nx_list; fail "sl"; rfl)
  | (apply nx_tup; fail "st"; rfl)
  | (apply nx_zip; fail "sl"; fail "sl"; rfl; rfl)
  | (apply nx_zipT; fail "st"; fail "st"; rfl; rfl)
  | (apply nx_zipM; fail "sl"; fail "st"; rfl; rfl)
  | (apply nx_enumT; fail "st"; rfl)
  | (apply st_range; fail "ln")
  | (apply st_list; fail "sl"; fail "ln")
  | (apply st_tup; fail "st"; fail "ln")
  | (apply st_zip; fail "sl"; fail "sl"; fail "ln")
  | (apply st_zipT; fail "st"; fail "st"; fail "ln")
  | (apply st_zipM; fail "sl"; fail "st"; rfl; rfl)
  | (apply st_enumT; fail "st"; rfl)
  | (apply mulR; with_reducible assumption)
  | (apply mulL; with_reducible assumption)
  | (apply accI; fail "lk"; fail "ln")
  | (apply apdI; fail "lk"; fail "ln")
  | (apply ixLI; fail "sl"; rfl)
  | (apply ixTI; fail "st"; rfl)
  | (apply setI; fail "lk"; rfl)
  | (apply slLI; fail "sl")
  | (apply sum2I; fail "sl")
  | (apply rep2I; fail "lk"; exact Nat.le_of_ble_eq_true rfl)
  | (refine And.intro (lg_small ?_) ?_; omega)
  | (apply joinI3; fail "sl"; fail "lg"; fail "lg"; fail "lg"; decide)
  | (apply enI; fail "st")
  | (apply enL; fail "sl")
  | (apply ppL; fail "sl")
  | (apply ppT; fail "st")
  | (apply pqL; fail "sl")
  | (apply pqT; fail "st")
  | (apply pzL; fail "sl"; fail "sl")
  | (apply pzT; fail "st"; fail "st")
  | (apply pzM; fail "sl"; fail "st")
  | (refine Or.inl ⟨_, rfl, ?_⟩)
  | (refine Or.inr ⟨_, rfl, ?_⟩)
  | (apply pxL; fail "sl")
  | (apply pxT; fail "st")
  | (refine iteTI rfl ?_)
  | (refine iteFI Bool.false_ne_true ?_)
  | (refine iteTI ?_ ?_; (simp [*]; done))
  | (refine iteFI ?_ ?_; (simp [*]; done))
  | (refine And.intro ?_ ?_; first | decide | (simp only [List.length_append, List.length_cons, List.length_nil]; decide)))
local macro_rules | `(tactic| fail "sx") => `(tactic| repeat (fail "sx1"))
local macro_rules | `(tactic| fail "tx1") => `(tactic| (conv => whnf); first
  | (refine fun _ => ?_; fail "nw")
  | (refine fun _ => ?_)
  | (refine wipe_1 (by decide) ?_; fail "ns")
  | (refine wipe_2 (by decide) (by decide) ?_; fail "ns")
  | (refine ⟨_, rfl, ?_⟩)
  | (refine ⟨rfl, ?_⟩)
  | (refine ⟨_, _, rfl, rfl, ?_⟩)
  | (refine ⟨_, _, rfl, ?_⟩)
  | (refine ⟨_, _, _, rfl, ?_⟩)
  | apply un_forR
  | (apply un_forL; fail "sl")
  | (apply un_forT; fail "st")
  | (apply un_forZ; fail "sl")
  | (apply un_forZT; fail "st")
  | (apply un_forZM; fail "sl")
  | (apply un_forE; fail "st")
  | apply un_inR
  | (apply tyI; fail "sl")
  | (apply dpI; fail "dp"; fail "dp"; rfl; rfl)
  | (apply gtI; fail "st"; rfl)
  | apply isi_ii
  | apply isi_ib
  | (apply isi_tt; fail "st")
  | refine divN1 ?_
  | (apply nx_range; exact Nat.le_of_ble_eq_true rfl)
  | (apply nx_list; fail "sl"; rfl)
  | (apply nx_tup; fail "st"; rfl)
  | (apply nx_zip; fail "sl"; fail "sl"; rfl; rfl)
  | (apply nx_zipT; fail "st"; fail "st"; rfl; rfl)
  | (apply nx_zipM; fail "sl"; fail "st"; rfl; rfl)
  | (apply nx_enumT; fail "st"; rfl)
  | (apply st_range; fail "ln")
  | (apply st_list; fail "sl"; fail "ln")
  | (apply st_tup; fail "st"; fail "ln")
  | (apply st_zip; fail "sl"; fail "sl"; fail "ln")
  | (apply st_zipT; fail "st"; fail "st"; fail "ln")
  | (apply st_zipM; fail "sl"; fail "st"; rfl; rfl)
  | (apply st_enumT; fail "st"; rfl)
  | (apply mulR; with_reducible assumption)
  | (apply mulL; with_reducible assumption)
  | (apply accI; fail "lk"; fail "ln")
  | (apply apdI; fail "lk"; fail "ln")
  | (apply ixLI; fail "sl"; rfl)
  | (apply ixTI; fail "st"; rfl)
  | (apply setI; fail "lk"; rfl)
  | (apply slLI; fail "sl")
  | (apply sum2I; fail "sl")
  | (apply rep2I; fail "lk"; exact Nat.le_of_ble_eq_true rfl)
  | (refine And.intro (lg_small ?_) ?_; omega)
  | (apply joinI3; fail "sl"; fail "lg"; fail "lg"; fail "lg"; decide)
  | (apply enI; fail "st")
  | (apply enL; fail "sl")
  | (apply ppL; fail "sl")
  | (apply ppT; fail "st")
  | (apply pqL; fail "sl")
  | (apply pqT; fail "st")
  | (apply pzL; fail "sl"; fail "sl")
  | (apply pzT; fail "st"; fail "st")
  | (apply pzM; fail "sl"; fail "st")
  | (refine Or.inl ⟨_, rfl, ?_⟩)
  | (refine Or.inr ⟨_, rfl, ?_⟩)
  | (apply pxL; fail "sl")
  | (apply pxT; fail "st")
  | (refine iteTI rfl ?_)
  | (refine iteFI Bool.false_ne_true ?_)
  | (refine iteTI ?_ ?_; (simp [*]; done))
  | (refine iteFI ?_ ?_; (simp [*]; done))
  | (refine And.intro ?_ ?_; first | decide | (simp only [List.length_append, List.length_cons, List.length_nil]; decide)))
local macro_rules | `(tactic| fail "tx") => `(tactic| repeat (fail "tx1"))
local macro_rules | `(tactic| fail "om") => `(tactic| first
  | omega
  | (dsimp only; omega)
  | (split <;> omega)
  | (dsimp only; split <;> omega))
local macro_rules | `(tactic| fail "bx1") => `(tactic| first
  | (refine iteD (fun _ => ?_) (fun _ => ?_))
  | (refine iteN (fun _ => ?_) (fun _ => ?_))
  | (refine iteE (fun _ => ?_) (fun _ => ?_))
  | (refine iteTI rfl ?_)
  | (refine iteFI Bool.false_ne_true ?_)
  | (refine ⟨_, rfl, ?_⟩)
  | (refine ⟨_, _, rfl, rfl, ?_⟩)
  | (refine ⟨rfl, ?_⟩)
  | (refine ⟨_, _, rfl, ?_⟩)
  | (apply mulR; with_reducible assumption)
  | (apply mulL; with_reducible assumption)
  | (apply mulL; refine ⟨?_, ?_⟩ <;> fail "om")
  | (apply powI; fail "om"))
local macro_rules | `(tactic| fail "bx") => `(tactic| repeat' (fail "bx1"))

section
variable {P : Program} {w : World} {K : PySem.W.Frag} {mg : Str → Option Value} {base : Heap} {f : Addr} {fd : FuncData} {C : Addr}
theorem pw_pos (j : Nat) : (1 : Int) ≤ 2 ^ j := by
  have : (0 : Int) < 2 ^ j := Int.pow_pos (by decide)
  omega
theorem ok_law_root (T : Tx K mg) (F : FnP K "_law_root" s_law_root f fd) : FnOk P w K mg base CX0 1 f fd ps_law_root spRoot := by
  refine F.ok sc_law_root (fun vs H Q E h => ?_) (fun cdv A outer s H vs Q E hr h => ?_)
  · obtain ⟨a, rfl, _⟩ := h
    rfl
  · obtain ⟨v, rfl, h0, hb, k⟩ := h
    refine ⟨_, PSs.nox (pss_cons (ps_asg (pe_tup (pa_cons pe_int (pa_cons pe_int pa_nil))) (k_tup (K := K) (n := 2) rfl (by rfl) (pgs_cons (pg_name (i := 1) sc_law_root.nd rfl (by first | exact Or.inl rfl | exact Or.inr rfl)) (pgs_cons (pg_name (i := 2) sc_law_root.nd rfl (by first | exact Or.inl rfl | exact Or.inr rfl)) pgs_nil))))
    (pss_cons (ps_while PassesOwn.never (pt_cmpR op_le (pe_op op_mul (pv 2) (pv 2)) (pv 0) (nomark _))
    (pss_one (ps_set (i := 2) sc_law_root.nd rfl (Or.inl rfl) (pe_op op_mul pe_int (pv 2)))))
    (pss_cons (ps_while PassesOwn.never (pt_cmpR op_gt (pv 2) pe_int (nomark _))
    (pss_cons (ps_if (pt_cmpR op_le (pe_op op_mul (pe_op op_add (pv 1) (pv 2)) (pe_op op_add (pv 1) (pv 2))) (pv 0) (nomark _))
    (pss_one (ps_set (i := 1) sc_law_root.nd rfl (Or.inl rfl) (pe_op op_add (pv 1) (pv 2))))
    pss_nil)
    (pss_one (ps_set (i := 2) sc_law_root.nd rfl (Or.inl rfl) (pe_op op_fdivN (pv 2) pe_int)))))
    (pss_one (ps_ret (pv 1)))))), ?_⟩
    refine ⟨by decide, fun p hp => ?_⟩
    refine ⟨p, _, rfl, SqT.of upd_same, rfl, ?_⟩
    fail "rd"
    refine ⟨fun m σ H' => ∃ x : Int, σ = [some (.int v), some (.int 0), some (.int x)] ∧ Same H H' ∧ (∃ j : Nat, x = 2 ^ j) ∧ 1 ≤ x ∧ x ≤ 2 * v + 1 ∧ m = (v + 1 - x).toNat, ⟨_, _, rfl, same_new hp, ⟨0, rfl⟩, by omega, by omega, rfl⟩, ?_⟩
    rintro m σ H' ⟨x, rfl, hs, ⟨j, hj⟩, hx, hx2, rfl⟩
    fail "rd"
    refine ⟨mul_small (by omega), ?_⟩
    fail "rd"
    have q1 := sq_ge hx
    refine iteD (fun h1 => ?_) (fun h1 => ?_)
    · refine ⟨_, fun _ _ h => h, ?_⟩
      fail "rd"
      refine ⟨mul_small (by omega), ?_⟩
      exact ⟨_, by omega, _, rfl, hs, ⟨j + 1, by rw [hj, Int.pow_succ, Int.mul_comm]⟩, by omega, by omega, rfl⟩
    · refine ⟨fun m σ H' => ∃ g y : Int, σ = [some (.int v), some (.int g), some (.int y)] ∧ Same H H' ∧ 0 ≤ g ∧ g ≤ v ∧ 0 ≤ y ∧ y ≤ 2 * v + 1 ∧ g * g ≤ v ∧ ((∃ j : Nat, y = 2 ^ j ∧ v < (g + 2 * y) * (g + 2 * y) ∧ m = j + 1) ∨ (y = 0 ∧ v < (g + 1) * (g + 1) ∧ m = 0)), ⟨_, _, _, rfl, hs, by omega, by omega, by omega, hx2, by omega, .inl ⟨j, hj, ?_, rfl⟩⟩, ?_⟩
      · have e : (0 + 2 * x) * (0 + 2 * x) = 4 * (x * x) := by grind
        rw [e]
        omega
      · rintro m σ H' ⟨g, y, rfl, hs, hg, hgv, hy, hy2, hgg, hc⟩
        fail "rd"
        refine iteD (fun h2 => ?_) (fun h2 => ?_)
        · rcases hc with ⟨i, hi, hlt, rfl⟩ | ⟨h3, _⟩
          · refine ⟨_, fun _ _ h => h, ?_⟩
            fail "rd"
            refine ⟨mul_small (by omega), ?_⟩
            fail "rd"
            have key : ∀ g' : Int, 0 ≤ g' → g' ≤ v → g' * g' ≤ v → v < (g' + y) * (g' + y) → ∃ m', m' < i + 1 ∧ ∃ g2 y2 : Int, [some (V.int v), some (V.int g'), some (V.int (y.fdiv 2))] = [some (.int v), some (.int g2), some (.int y2)] ∧ Same H H' ∧ 0 ≤ g2 ∧ g2 ≤ v ∧ 0 ≤ y2 ∧ y2 ≤ 2 * v + 1 ∧ g2 * g2 ≤ v ∧
                ((∃ j : Nat, y2 = 2 ^ j ∧ v < (g2 + 2 * y2) * (g2 + 2 * y2) ∧ m' = j + 1) ∨ (y2 = 0 ∧ v < (g2 + 1) * (g2 + 1) ∧ m' = 0)) := by
              intro g' a1 a2 a3 a4
              cases i with
              | zero =>
                have hy1 : y = 1 := by rw [hi]; rfl
                subst hy1
                exact ⟨0, by omega, g', 0, rfl, hs, a1, a2, by omega, by omega, a3, .inr ⟨rfl, a4, rfl⟩⟩
              | succ i =>
                have e1 : y.fdiv 2 = 2 ^ i := by rw [hi, Int.pow_succ]; exact Int.mul_fdiv_cancel _ (by decide)
                have e2 : y = 2 * 2 ^ i := by rw [hi, Int.pow_succ, Int.mul_comm]
                have e3 := pw_pos i
                refine ⟨i + 1, by omega, g', 2 ^ i, by rw [e1], hs, a1, a2, by omega, by omega, a3, .inl ⟨i, rfl, by rw [← e2]; exact a4, rfl⟩⟩
            refine iteD (fun h3 => ?_) (fun h3 => ?_)
            · fail "rd"
              refine ⟨⟨by decide, by decide⟩, ?_⟩
              have b1 := sq_ge (h := g + y) (by omega)
              exact key (g + y) (by omega) (by omega) h3 (by rw [show g + y + y = g + 2 * y by omega]; exact hlt)
            · fail "rd"
              refine ⟨⟨by decide, by decide⟩, ?_⟩
              exact key g hg hgv hgg (by omega)
          · omega
        · rcases hc with ⟨i, hi, hlt, rfl⟩ | ⟨h3, h4, rfl⟩
          · have := pw_pos i
            omega
          · fail "rd"
            rw [← isq_unique hg hgg h4 (by omega)]
            exact k _ hs
end
end G41
set_option Elab.async false
set_option linter.all false
set_option maxRecDepth 100000
set_option maxHeartbeats 4000000
namespace G41
open PySem PySem.Spec PyProof.Rows L2
abbrev s_law_is_discriminant : Stmt := top 76
abbrev nm_law_is_discriminant : List Str := ["_law_whole_here"]
abbrev ps_law_is_discriminant : List Str := ["_law_whole_here"]
theorem sc_law_is_discriminant : FnScope nm_law_is_discriminant ps_law_is_discriminant (defScope s_law_is_discriminant) := ⟨rfl, rfl, rfl, by decide +kernel, rfl, by decide +kernel, by decide +kernel⟩
local macro_rules | `(tactic| fail "rd1") => `(tactic| first
  | refine ⟨_, rfl, ?_⟩
  | refine ⟨_, _, rfl, rfl, ?_⟩
  | refine ⟨rfl, ?_⟩
  | refine ⟨_, _, rfl, ?_⟩
  | refine ⟨_, _, _, rfl, ?_⟩
  | fail)
local macro_rules | `(tactic| fail "rd") => `(tactic| repeat (fail "rd1"))
local macro_rules | `(tactic| fail "nn") => `(tactic| first
  | with_reducible assumption
  | (apply lkn; fail "ne"; fail "nn")
  | (apply none_same; with_reducible assumption; fail "sm"))
local macro_rules | `(tactic| fail "ne") => `(tactic| first
  | with_reducible assumption
  | exact (old_ne (by with_reducible assumption) (by with_reducible assumption)).1
  | exact (old_ne (by with_reducible assumption) (by with_reducible assumption)).2
  | (apply ne_new1; with_reducible assumption; fail "lk")
  | (apply ne_new2; with_reducible assumption; fail "lk"))
local macro_rules | `(tactic| fail "lk") => `(tactic| first
  | with_reducible assumption
  | exact upd_same
  | (apply lkn; fail "ne"; fail "lk")
  | (apply same_upd; with_reducible assumption; fail "lk"))
local macro_rules | `(tactic| fail "sm") => `(tactic| first
  | with_reducible assumption
  | exact Same.refl _
  | (apply same_mut; fail "sm"; fail "nn")
  | (apply trans_same; with_reducible assumption; fail "sm"))
local macro_rules | `(tactic| fail "sl") => `(tactic| first
  | with_reducible assumption
  | (apply lst_same; with_reducible assumption; fail "sm")
  | (apply SqL.of; fail "lk")
  | (apply lst_new; fail "nn"; fail "sl")
  | (apply lst_updn; fail "ne"; fail "sl")
  | (apply lst_trans; with_reducible assumption; fail "sl"))
local macro_rules | `(tactic| fail "st") => `(tactic| first
  | with_reducible assumption
  | (apply tup_same; with_reducible assumption; fail "sm")
  | (apply SqT.of; fail "lk")
  | (apply tup_new; fail "nn"; fail "st")
  | (apply tup_upd; fail "lk"; fail "st")
  | (apply tup_trans; with_reducible assumption; fail "st")
  | (apply tup_updI; fail "lk"; fail "st"))
local macro_rules | `(tactic| fail "nw") => `(tactic| (repeat (refine nwI (fun _ _ => ?_))); refine fun _ => ?_)
local macro_rules | `(tactic| fail "ln") => `(tactic| first
  | exact lenLt (Nat.le_of_ble_eq_true rfl)
  | exact Nat.le_of_ble_eq_true rfl)
local macro_rules | `(tactic| fail "un") => `(tactic| first
  | apply un_lcR
  | (refine un_lc2 2 ?_)
  | (apply un_lcL; fail "sl")
  | (apply un_lcT; fail "st")
  | (apply un_lcZ; fail "sl")
  | (apply un_lcZT; fail "st")
  | (apply un_lcZM; fail "sl"))
local macro_rules | `(tactic| fail "uf") => `(tactic| first
  | apply un_forR
  | (apply un_forL; fail "sl")
  | (apply un_forT; fail "st")
  | (apply un_forZ; fail "sl")
  | (apply un_forZT; fail "st")
  | (apply un_forZM; fail "sl")
  | (apply un_forE; fail "st"))
local macro_rules | `(tactic| fail "ns") => `(tactic| try simp only [wipe, L2.start, List.set_cons_zero, List.set_cons_succ, List.map_cons, List.map_nil, List.length_cons, List.length_nil, List.replicate_succ, List.replicate_zero, List.cons_append, List.nil_append, Nat.reduceAdd, Nat.reduceSub])
local macro_rules | `(tactic| fail "da") => `(tactic| first
  | exact DpAll.nil
  | (apply DpAll.cons; (first | exact Dp.int _ | (apply Dp.tup; fail "st"; fail "da") | (apply Dp.lst; fail "sl"; fail "da") | exact Dp.bl _ | exact Dp.str _); fail "da"))
local macro_rules | `(tactic| fail "dp") => `(tactic| first
  | exact Dp.int _
  | (apply Dp.tup; fail "st"; fail "da")
  | (apply Dp.lst; fail "sl"; fail "da"))
local macro_rules | `(tactic| fail "so") => `(tactic| first
  | (apply sx_upd; fail "so")
  | (apply sx_mut; fail "so"; fail "nn")
  | (apply sx_of; fail "sm"))
local macro_rules | `(tactic| fail "lg") => `(tactic| (refine PyProof.Rows.int_text_len_1921 (lg_small ?_); omega))
local macro_rules | `(tactic| fail "sx1") => `(tactic| (conv => whnf); first
  | (refine fun _ => ?_; fail "nw"; first | fail "un" | skip)
  | (refine fun _ => ?_)
  | (refine wipe_1 (by decide) ?_; fail "ns")
  | (refine wipe_2 (by decide) (by decide) ?_; fail "ns")
  | (refine ⟨_, rfl, ?_⟩)
  | (refine ⟨rfl, ?_⟩)
  | (refine ⟨_, _, rfl, rfl, ?_⟩)
  | (refine ⟨_, _, rfl, ?_⟩)
  | (refine ⟨_, _, _, rfl, ?_⟩)
  | apply un_forR
  | (apply un_forL; fail "sl")
  | (apply un_forT; fail "st")
  | (apply un_forZ; fail "sl")
  | (apply un_forZT; fail "st")
  | (apply un_forZM; fail "sl")
  | (apply un_forE; fail "st")
  | apply un_inR
  | (apply tyI; fail "sl")
  | (apply dpI; fail "dp"; fail "dp"; rfl; rfl)
  | (apply gtI; fail "st"; rfl)
  | apply isi_ii
  | apply isi_ib
  | (apply isi_tt; fail "st")
  | refine divN1 ?_
  | (apply nx_range; exact Nat.le_of_ble_eq_true rfl)
  | (apply nx_list; fail "sl"; rfl)
  | (apply nx_tup; fail "st"; rfl)
  | (apply nx_zip; fail "sl"; fail "sl"; rfl; rfl)
  | (apply nx_zipT; fail "st"; fail "st"; rfl; rfl)
  | (apply nx_zipM; fail "sl"; fail "st"; rfl; rfl)
  | (apply nx_enumT; fail "st"; rfl)
  | (apply st_range; fail "ln")
  | (apply st_list; fail "sl"; fail "ln")
  | (apply st_tup; fail "st"; fail "ln")
  | (apply st_zip; fail "sl"; fail "sl"; fail "ln")
  | (apply st_zipT; fail "st"; fail "st"; fail "ln")
  | (apply st_zipM; fail "sl"; fail "st"; rfl; rfl)
  | (apply st_enumT; fail "st"; rfl)
  | (apply mulR; with_reducible assumption)
  | (apply mulL; with_reducible assumption)
  | (apply accI; fail "lk"; fail "ln")
  | (apply apdI; fail "lk"; fail "ln")
  | (apply ixLI; fail "sl"; rfl)
  | (apply ixTI; fail "st"; rfl)
  | (apply setI; fail "lk"; rfl)
  | (apply slLI; fail "sl")
  | (apply sum2I; fail "sl")
  | (apply rep2I; fail "lk"; exact Nat.le_of_ble_eq_true rfl)
  | (refine And.intro (lg_small ?_) ?_; omega)
  | (apply joinI3; fail "sl"; fail "lg"; fail "lg"; fail "lg"; decide)
  | (apply enI; fail "st")
  | (apply enL; fail "sl")
  | (apply ppL; fail "sl")
  | (apply ppT; fail "st")
  | (apply pqL; fail "sl")
  | (apply pqT; fail "st")
  | (apply pzL; fail "sl"; fail "sl")
  | (apply pzT; fail "st"; fail "st")
  | (apply pzM; fail "sl"; fail "st")
  | (refine Or.inl ⟨_, rfl, ?_⟩)
  | (refine Or.inr ⟨_, rfl, ?_⟩)
  | (apply pxL; fail "sl")
  | (apply pxT; fail "st")
  | (refine iteTI rfl ?_)
  | (refine iteFI Bool.false_ne_true ?_)
  | (refine iteTI ?_ ?_; (simp [*]; done))
  | (refine iteFI ?_ ?_; (simp [*]; done))
  | (refine And.intro ?_ ?_; first | decide | (simp only [List.length_append, List.length_cons, List.length_nil]; decide)))
local macro_rules | `(tactic| fail "sx") => `(tactic| repeat (fail "sx1"))
local macro_rules | `(tactic| fail "tx1") => `(tactic| (conv => whnf); first
  | (refine fun _ => ?_; fail "nw")
  | (refine fun _ => ?_)
  | (refine wipe_1 (by decide) ?_; fail "ns")
  | (refine wipe_2 (by decide) (by decide) ?_; fail "ns")
  | (refine ⟨_, rfl, ?_⟩)
  | (refine ⟨rfl, ?_⟩)
  | (refine ⟨_, _, rfl, rfl, ?_⟩)
  | (refine ⟨_, _, rfl, ?_⟩)
  | (refine ⟨_, _, _, rfl, ?_⟩)
  | apply un_forR
  | (apply un_forL; fail "sl")
  | (apply un_forT; fail "st")
  | (apply un_forZ; fail "sl")
  | (apply un_forZT; fail "st")
  | (apply un_forZM; fail "sl")
  | (apply un_forE; fail "st")
  | apply un_inR
  | (apply tyI; fail "sl")
  | (apply dpI; fail "dp"; fail "dp"; rfl; rfl)
  | (apply gtI; fail "st"; rfl)
  | apply isi_ii
  | apply isi_ib
  | (apply isi_tt; fail "st")
  | refine divN1 ?_
  | (apply nx_range; exact Nat.le_of_ble_eq_true rfl)
  | (apply nx_list; fail "sl"; rfl)
  | (apply nx_tup; fail "st"; rfl)
  | (apply nx_zip; fail "sl"; fail "sl"; rfl; rfl)
  | (apply nx_zipT; fail "st"; fail "st"; rfl; rfl)
  | (apply nx_zipM; fail "sl"; fail "st"; rfl; rfl)
  | (apply nx_enumT; fail "st"; rfl)
  | (apply st_range; fail "ln")
  | (apply st_list; fail "sl"; fail "ln")
  | (apply st_tup; fail "st"; fail "ln")
  | (apply st_zip; fail "sl"; fail "sl"; fail "ln")
  | (apply st_zipT; fail "st"; fail "st"; fail "ln")
  | (apply st_zipM; fail "sl"; fail "st"; rfl; rfl)
  | (apply st_enumT; fail "st"; rfl)
  | (apply mulR; with_reducible assumption)
  | (apply mulL; with_reducible assumption)
  | (apply accI; fail "lk"; fail "ln")
  | (apply apdI; fail "lk"; fail "ln")
  | (apply ixLI; fail "sl"; rfl)
  | (apply ixTI; fail "st"; rfl)
  | (apply setI; fail "lk"; rfl)
  | (apply slLI; fail "sl")
  | (apply sum2I; fail "sl")
  | (apply rep2I; fail "lk"; exact Nat.le_of_ble_eq_true rfl)
  | (refine And.intro (lg_small ?_) ?_; omega)
  | (apply joinI3; fail "sl"; fail "lg"; fail "lg"; fail "lg"; decide)
  | (apply enI; fail "st")
  | (apply enL; fail "sl")
  | (apply ppL; fail "sl")
  | (apply ppT; fail "st")
  | (apply pqL; fail "sl")
  | (apply pqT; fail "st")
  | (apply pzL; fail "sl"; fail "sl")
  | (apply pzT; fail "st"; fail "st")
  | (apply pzM; fail "sl"; fail "st")
  | (refine Or.inl ⟨_, rfl, ?_⟩)
  | (refine Or.inr ⟨_, rfl, ?_⟩)
  | (apply pxL; fail "sl")
  | (apply pxT; fail "st")
  | (refine iteTI rfl ?_)
  | (refine iteFI Bool.false_ne_true ?_)
  | (refine iteTI ?_ ?_; (simp [*]; done))
  | (refine iteFI ?_ ?_; (simp [*]; done))
  | (refine And.intro ?_ ?_; first | decide | (simp only [List.length_append, List.length_cons, List.length_nil]; decide)))
local macro_rules | `(tactic| fail "tx") => `(tactic| repeat (fail "tx1"))
local macro_rules | `(tactic| fail "om") => `(tactic| first
  | omega
  | (dsimp only; omega)
  | (split <;> omega)
  | (dsimp only; split <;> omega))
local macro_rules | `(tactic| fail "bx1") => `(tactic| first
  | (refine iteD (fun _ => ?_) (fun _ => ?_))
  | (refine iteN (fun _ => ?_) (fun _ => ?_))
  | (refine iteE (fun _ => ?_) (fun _ => ?_))
  | (refine iteTI rfl ?_)
  | (refine iteFI Bool.false_ne_true ?_)
  | (refine ⟨_, rfl, ?_⟩)
  | (refine ⟨_, _, rfl, rfl, ?_⟩)
  | (refine ⟨rfl, ?_⟩)
  | (refine ⟨_, _, rfl, ?_⟩)
  | (apply mulR; with_reducible assumption)
  | (apply mulL; with_reducible assumption)
  | (apply mulL; refine ⟨?_, ?_⟩ <;> fail "om")
  | (apply powI; fail "om"))
local macro_rules | `(tactic| fail "bx") => `(tactic| repeat' (fail "bx1"))

/-- the law's own word for reduced -/
def redL (t : T3) : Bool :=
  if dsc t < 0 then decide (-t.1 < t.2.1) && (decide (t.2.1 ≤ t.1) && decide (t.1 ≤ t.2.2)) && (decide (0 ≤ t.2.1) || decide (t.1 < t.2.2))
  else if (decide (t.2.1 ≤ 0) || decide (dsc t ≤ t.2.1 * t.2.1)) = true then false
  else decide (dsc t < (2 * absI t.1 + t.2.1) * (2 * absI t.1 + t.2.1)) && (decide (2 * absI t.1 - t.2.1 < 0) || decide ((2 * absI t.1 - t.2.1) * (2 * absI t.1 - t.2.1) < dsc t))
section
variable {P : Program} {w : World} {K : PySem.W.Frag} {mg : Str → Option Value} {base : Heap} {f : Addr} {fd : FuncData} {C : Addr}
structure spLr (K : PySem.W.Frag) (vs : List V) (H : Hp) (Q : VK) (E : XK) : Prop where
  ex : ∃ a t, vs = [.ref a] ∧ T3At K H a t ∧ Sml t ∧ Q (.bl (redL t)) H
theorem ok_law_reduced (T : Tx K mg) (C_law_d : Cal P w K mg base 1 "_law_d" ps_law_d (spLd K)) (F : FnP K "_law_reduced" s_law_reduced f fd) : FnOk P w K mg base CX0 2 f fd ps_law_reduced (spLr K) := by
  refine F.ok sc_law_reduced (fun vs H Q E h => ?_) (fun cdv A outer s H vs Q E hr h => ?_)
  · obtain ⟨a, t, rfl, _⟩ := h
    rfl
  · obtain ⟨a, ⟨x, y, z⟩, rfl, hp, hb, k⟩ := h
    refine ⟨_, PSs.nox (pss_cons (ps_asg (pv 0) (k_tup (K := K) (n := 3) rfl (by rfl) (pgs_cons (pg_name (i := 2) sc_law_reduced.nd rfl (by first | exact Or.inl rfl | exact Or.inr rfl)) (pgs_cons (pg_name (i := 3) sc_law_reduced.nd rfl (by first | exact Or.inl rfl | exact Or.inr rfl)) (pgs_cons (pg_name (i := 4) sc_law_reduced.nd rfl (by first | exact Or.inl rfl | exact Or.inr rfl)) pgs_nil)))))
    (pss_cons (ps_set (i := 1) sc_law_reduced.nd rfl (Or.inl rfl) (pe_cal C_law_d hr (pa_cons (pv 0) pa_nil)))
    (pss_cons (ps_if (pt_cmpR op_lt (pv 1) pe_int (nomark _))
    (pss_one (ps_ret (pe_and (pe_chain3 op_lt op_le op_le (pe_un un_neg (pv 2)) (pv 3) (pv 2) (pv 4)) (pe_one (pe_or (pe_cmpR op_ge (pv 3) pe_int (nomark _)) (pe_one (pe_cmpR op_lt (pv 2) (pv 4) (nomark _))))))))
    pss_nil)
    (pss_cons (ps_if (PW.pt (pw_or (pt_cmpR op_le (pv 3) pe_int (nomark _)) (pw_or1 (pt_cmpR op_ge (pe_op op_mul (pv 3) (pv 3)) (pv 1) (nomark _)))))
    (pss_one (ps_ret pe_bl))
    pss_nil)
    (pss_cons (ps_par (i := 5) (j := 6) rfl sc_law_reduced.nd rfl rfl (by decide) rfl rfl (pa_cons (pe_op op_sub (pe_op op_mul pe_int (pe_callB call_abs (by rfl) T.b_abs (by decide +kernel) (pa_cons (pv 2) pa_nil))) (pv 3)) (pa_cons (pe_op op_add (pe_op op_mul pe_int (pe_callB call_abs (by rfl) T.b_abs (by decide +kernel) (pa_cons (pv 2) pa_nil))) (pv 3)) pa_nil)) (by rfl))
    (pss_one (ps_ret (pe_and (pe_cmpR op_gt (pe_op op_mul (pv 6) (pv 6)) (pv 1) (nomark _)) (pe_one (pe_or (pe_cmpR op_lt (pv 5) pe_int (nomark _)) (pe_one (pe_cmpR op_lt (pe_op op_mul (pv 5) (pv 5)) (pv 1) (nomark _))))))))))))), ?_⟩
    obtain ⟨b1, b2, b3⟩ := id hb
    simp only at b1 b2 b3
    have mx : Sm x := ⟨by omega, by omega⟩
    have my : Sm y := ⟨by omega, by omega⟩
    have mz : Sm z := ⟨by omega, by omega⟩
    have hp' : SqT K H a [.int x, .int y, .int z] := hp
    fail "sx"
    refine ⟨⟨a, (x, y, z), rfl, hp, hb, ?_⟩⟩
    fail "sx"
    refine iteD (fun h1 => ?_) (fun h1 => ?_)
    · fail "bx"
      all_goals refine blI k ?_
      all_goals unfold redL
      all_goals rw [if_pos h1]
      all_goals simp only at *
      all_goals first | (simp [*]; done) | (simp [*]; omega)
    · fail "bx"
      all_goals refine blI k ?_
      all_goals unfold redL
      all_goals rw [if_neg h1]
      all_goals simp only [absI, sq2] at *
      all_goals first | (simp [*]; done) | (simp [*]; omega)
theorem ok_law_is_discriminant (T : Tx K mg) (C_law_root : Cal P w K mg base 1 "_law_root" ps_law_root spRoot) (F : FnP K "_law_is_discriminant" s_law_is_discriminant f fd) :
    FnOk P w K mg base CX0 2 f fd ps_law_is_discriminant spIsD := by
  refine F.ok sc_law_is_discriminant (fun vs H Q E h => ?_) (fun cdv A outer s H vs Q E hr h => ?_)
  · obtain ⟨v, rfl, _⟩ := h
    rfl
  · obtain ⟨v, rfl, k⟩ := h
    refine ⟨_, PSs.nox (pss_cons (ps_if (PW.pt (pw_or (pt_not (pt_chain op_le op_le (pe_un un_neg (pe_op op_pow pe_int pe_int)) (pv 0) pe_int)) (pw_or1 (pt_cmpR op_gt (pe_op op_mod (pe_callTy call_int1 (by rfl) T.b_int (by decide +kernel) (pa_cons (pv 0) pa_nil)) pe_int) pe_int (nomark _)))))
    (pss_one (ps_ret pe_bl))
    pss_nil)
    (pss_one (ps_ret (pe_or (pe_cmpR op_lt (pv 0) pe_int (nomark _)) (pe_one (pe_cmpR op_ne (pe_op op_mul (pe_cal C_law_root hr (pa_cons (pv 0) pa_nil)) (pe_cal C_law_root hr (pa_cons (pv 0) pa_nil))) (pv 0) (nomark _))))))), ?_⟩
    have e5 : (10 : Int) ^ (Int.toNat 5) = 100000 := by decide
    fail "rd"
    refine ⟨⟨by decide, by decide, by decide⟩, ?_⟩
    fail "rd"
    refine iteD (fun h1 => ?_) (fun h1 => ?_)
    · rw [e5] at h1
      fail "rd"
      refine iteB (fun h2 => ?_) (fun h2 => ?_)
      · simp at h2
        refine blI (k _ (Same.refl _)) ?_
        simp [isD]
        omega
      · simp at h2
        fail "rd"
        refine .inl ⟨_, rfl, ?_⟩
        fail "rd"
        refine ⟨(by decide : (0 : Int) < 4), ?_⟩
        fail "rd"
        refine iteD (fun h3 => ?_) (fun h3 => ?_)
        · refine blI (k _ (Same.refl _)) ?_
          simp [isD]
          omega
        · have e1 : decide (-100000 ≤ v) = true := decide_eq_true h1
          have e2 : decide (v ≤ 1000) = true := decide_eq_true h2
          have e3 : decide (v % 4 ≤ 1) = true := decide_eq_true (by omega)
          fail "rd"
          refine iteD (fun h4 => ?_) (fun h4 => ?_)
          · refine blI (k _ (Same.refl _)) ?_
            have e4 : decide (0 ≤ v) = false := decide_eq_false (by omega)
            simp only [isD, e1, e2, e3, e4, Bool.true_and, Bool.false_and, Bool.not_false]
          · have e4 : decide (0 ≤ v) = true := decide_eq_true (by omega)
            fail "rd"
            refine ⟨by omega, by omega, fun H1 s1 => ?_⟩
            fail "rd"
            refine ⟨by omega, by omega, fun H2 s2 => ?_⟩
            fail "rd"
            have q3 := isq_le (v := v) (by omega) (by omega)
            have q0 := isq_nn v
            refine ⟨mul_small (by omega), ?_⟩
            fail "rd"
            refine blI (k _ (s1.trans s2)) ?_
            simp only [isD, e1, e2, e3, e4, Bool.true_and]
            simp
    · rw [e5] at h1
      fail "rd"
      refine blI (k _ (Same.refl _)) ?_
      simp [isD]
      omega
end
end G41
set_option Elab.async false
set_option linter.all false
set_option maxRecDepth 100000
set_option maxHeartbeats 4000000
namespace G41
open PySem PySem.Spec PyProof.Rows L2
local macro_rules | `(tactic| fail "rd1") => `(tactic| first
  | refine ⟨_, rfl, ?_⟩
  | refine ⟨_, _, rfl, rfl, ?_⟩
  | refine ⟨rfl, ?_⟩
  | refine ⟨_, _, rfl, ?_⟩
  | refine ⟨_, _, _, rfl, ?_⟩
  | fail)
local macro_rules | `(tactic| fail "rd") => `(tactic| repeat (fail "rd1"))
local macro_rules | `(tactic| fail "nn") => `(tactic| first
  | with_reducible assumption
  | (apply lkn; fail "ne"; fail "nn")
  | (apply none_same; with_reducible assumption; fail "sm"))
local macro_rules | `(tactic| fail "ne") => `(tactic| first
  | with_reducible assumption
  | exact (old_ne (by with_reducible assumption) (by with_reducible assumption)).1
  | exact (old_ne (by with_reducible assumption) (by with_reducible assumption)).2
  | (apply ne_new1; with_reducible assumption; fail "lk")
  | (apply ne_new2; with_reducible assumption; fail "lk"))
local macro_rules | `(tactic| fail "lk") => `(tactic| first
  | with_reducible assumption
  | exact upd_same
  | (apply lkn; fail "ne"; fail "lk")
  | (apply same_upd; with_reducible assumption; fail "lk"))
local macro_rules | `(tactic| fail "sm") => `(tactic| first
  | with_reducible assumption
  | exact Same.refl _
  | (apply same_mut; fail "sm"; fail "nn")
  | (apply trans_same; with_reducible assumption; fail "sm"))
local macro_rules | `(tactic| fail "sl") => `(tactic| first
  | with_reducible assumption
  | (apply lst_same; with_reducible assumption; fail "sm")
  | (apply SqL.of; fail "lk")
  | (apply lst_new; fail "nn"; fail "sl")
  | (apply lst_updn; fail "ne"; fail "sl")
  | (apply lst_trans; with_reducible assumption; fail "sl"))
local macro_rules | `(tactic| fail "st") => `(tactic| first
  | with_reducible assumption
  | (apply tup_same; with_reducible assumption; fail "sm")
  | (apply SqT.of; fail "lk")
  | (apply tup_new; fail "nn"; fail "st")
  | (apply tup_upd; fail "lk"; fail "st")
  | (apply tup_trans; with_reducible assumption; fail "st")
  | (apply tup_updI; fail "lk"; fail "st"))
local macro_rules | `(tactic| fail "nw") => `(tactic| (repeat (refine nwI (fun _ _ => ?_))); refine fun _ => ?_)
local macro_rules | `(tactic| fail "ln") => `(tactic| first
  | exact lenLt (Nat.le_of_ble_eq_true rfl)
  | exact Nat.le_of_ble_eq_true rfl)
local macro_rules | `(tactic| fail "un") => `(tactic| first
  | apply un_lcR
  | (refine un_lc2 2 ?_)
  | (apply un_lcL; fail "sl")
  | (apply un_lcT; fail "st")
  | (apply un_lcZ; fail "sl")
  | (apply un_lcZT; fail "st")
  | (apply un_lcZM; fail "sl"))
local macro_rules | `(tactic| fail "uf") => `(tactic| first
  | apply un_forR
  | (apply un_forL; fail "sl")
  | (apply un_forT; fail "st")
  | (apply un_forZ; fail "sl")
  | (apply un_forZT; fail "st")
  | (apply un_forZM; fail "sl")
  | (apply un_forE; fail "st"))
local macro_rules | `(tactic| fail "ns") => `(tactic| try simp only [wipe, L2.start, List.set_cons_zero, List.set_cons_succ, List.map_cons, List.map_nil, List.length_cons, List.length_nil, List.replicate_succ, List.replicate_zero, List.cons_append, List.nil_append, Nat.reduceAdd, Nat.reduceSub])
local macro_rules | `(tactic| fail "da") => `(tactic| first
  | exact DpAll.nil
  | (apply DpAll.cons; (first | exact Dp.int _ | (apply Dp.tup; fail "st"; fail "da") | (apply Dp.lst; fail "sl"; fail "da") | exact Dp.bl _ | exact Dp.str _); fail "da"))
local macro_rules | `(tactic| fail "dp") => `(tactic| first
  | exact Dp.int _
  | (apply Dp.tup; fail "st"; fail "da")
  | (apply Dp.lst; fail "sl"; fail "da"))
local macro_rules | `(tactic| fail "so") => `(tactic| first
  | (apply sx_upd; fail "so")
  | (apply sx_mut; fail "so"; fail "nn")
  | (apply sx_of; fail "sm"))
local macro_rules | `(tactic| fail "lg") => `(tactic| (refine PyProof.Rows.int_text_len_1921 (lg_small ?_); omega))
local macro_rules | `(tactic| fail "sx1") => `(tactic| (conv => whnf); first
  | (refine fun _ => ?_; fail "nw"; first | fail "un" | skip)
  | (refine fun _ => ?_)
  | (refine wipe_1 (by decide) ?_; fail "ns")
  | (refine wipe_2 (by decide) (by decide) ?_; fail "ns")
  | (refine ⟨_, rfl, ?_⟩)
  | (refine ⟨rfl, ?_⟩)
  | (refine ⟨_, _, rfl, rfl, ?_⟩)
  | (refine ⟨_, _, rfl, ?_⟩)
  | (refine ⟨_, _, _, rfl, ?_⟩)
  | apply un_forR
  | (apply un_forL; fail "sl")
  | (apply un_forT; fail "st")
  | (apply un_forZ; fail "sl")
  | (apply un_forZT; fail "st")
  | (apply un_forZM; fail "sl")
  | (apply un_forE; fail "st")
  | apply un_inR
  | (apply tyI; fail "sl")
  | (apply dpI; fail "dp"; fail "dp"; rfl; rfl)
  | (apply gtI; fail "st"; rfl)
  | apply isi_ii
  | apply isi_ib
  | (apply isi_tt; fail "st")
  | refine divN1 ?_
  | (apply nx_range; exact Nat.le_of_ble_eq_true rfl)
  | (apply nx_list; fail "sl"; rfl)
  | (apply nx_tup; fail "st"; rfl)
  | (apply nx_zip; fail "sl"; fail "sl"; rfl; rfl)
  | (apply nx_zipT; fail "st"; fail "st"; rfl; rfl)
  | (apply nx_zipM; fail "sl"; fail "st"; rfl; rfl)
  | (apply nx_enumT; fail "st"; rfl)
  | (apply st_range; fail "ln")
  | (apply st_list; fail "sl"; fail "ln")
  | (apply st_tup; fail "st"; fail "ln")
  | (apply st_zip; fail "sl"; fail "sl"; fail "ln")
  | (apply st_zipT; fail "st"; fail "st"; fail "ln")
  | (apply st_zipM; fail "sl"; fail "st"; rfl; rfl)
  | (apply st_enumT; fail "st"; rfl)
  | (apply mulR; with_reducible assumption)
  | (apply mulL; with_reducible assumption)
  | (apply accI; fail "lk"; fail "ln")
  | (apply apdI; fail "lk"; fail "ln")
  | (apply ixLI; fail "sl"; rfl)
  | (apply ixTI; fail "st"; rfl)
  | (apply setI; fail "lk"; rfl)
  | (apply slLI; fail "sl")
  | (apply sum2I; fail "sl")
  | (apply rep2I; fail "lk"; exact Nat.le_of_ble_eq_true rfl)
  | (refine And.intro (lg_small ?_) ?_; omega)
  | (apply joinI3; fail "sl"; fail "lg"; fail "lg"; fail "lg"; decide)
  | (apply enI; fail "st")
  | (apply enL; fail "sl")
  | (apply ppL; fail "sl")
  | (apply ppT; fail "st")
  | (apply pqL; fail "sl")
  | (apply pqT; fail "st")
  | (apply pzL; fail "sl"; fail "sl")
  | (apply pzT; fail "st"; fail "st")
  | (apply pzM; fail "sl"; fail "st")
  | (refine Or.inl ⟨_, rfl, ?_⟩)
  | (refine Or.inr ⟨_, rfl, ?_⟩)
  | (apply pxL; fail "sl")
  | (apply pxT; fail "st")
  | (refine iteTI rfl ?_)
  | (refine iteFI Bool.false_ne_true ?_)
  | (refine iteTI ?_ ?_; (simp [*]; done))
  | (refine iteFI ?_ ?_; (simp [*]; done))
  | (refine And.intro ?_ ?_; first | decide | (simp only [List.length_append, List.length_cons, List.length_nil]; decide)))
local macro_rules | `(tactic| fail "sx") => `(tactic| repeat (fail "sx1"))
local macro_rules | `(tactic| fail "tx1") => `(tactic| (conv => whnf); first
  | (refine fun _ => ?_; fail "nw")
  | (refine fun _ => ?_)
  | (refine wipe_1 (by decide) ?_; fail "ns")
  | (refine wipe_2 (by decide) (by decide) ?_; fail "ns")
  | (refine ⟨_, rfl, ?_⟩)
  | (refine ⟨rfl, ?_⟩)
  | (refine ⟨_, _, rfl, rfl, ?_⟩)
  | (refine ⟨_, _, rfl, ?_⟩)
  | (refine ⟨_, _, _, rfl, ?_⟩)
  | apply un_forR
  | (apply un_forL; fail "sl")
  | (apply un_forT; fail "st")
  | (apply un_forZ; fail "sl")
  | (apply un_forZT; fail "st")
  | (apply un_forZM; fail "sl")
  | (apply un_forE; fail "st")
  | apply un_inR
  | (apply tyI; fail "sl")
  | (apply dpI; fail "dp"; fail "dp"; rfl; rfl)
  | (apply gtI; fail "st"; rfl)
  | apply isi_ii
  | apply isi_ib
  | (apply isi_tt; fail "st")
  | refine divN1 ?_
  | (apply nx_range; exact Nat.le_of_ble_eq_true rfl)
  | (apply nx_list; fail "sl"; rfl)
  | (apply nx_tup; fail "st"; rfl)
  | (apply nx_zip; fail "sl"; fail "sl"; rfl; rfl)
  | (apply nx_zipT; fail "st"; fail "st"; rfl; rfl)
  | (apply nx_zipM; fail "sl"; fail "st"; rfl; rfl)
  | (apply nx_enumT; fail "st"; rfl)
  | (apply st_range; fail "ln")
  | (apply st_list; fail "sl"; fail "ln")
  | (apply st_tup; fail "st"; fail "ln")
  | (apply st_zip; fail "sl"; fail "sl"; fail "ln")
  | (apply st_zipT; fail "st"; fail "st"; fail "ln")
  | (apply st_zipM; fail "sl"; fail "st"; rfl; rfl)
  | (apply st_enumT; fail "st"; rfl)
  | (apply mulR; with_reducible assumption)
  | (apply mulL; with_reducible assumption)
  | (apply accI; fail "lk"; fail "ln")
  | (apply apdI; fail "lk"; fail "ln")
  | (apply ixLI; fail "sl"; rfl)
  | (apply ixTI; fail "st"; rfl)
  | (apply setI; fail "lk"; rfl)
  | (apply slLI; fail "sl")
  | (apply sum2I; fail "sl")
  | (apply rep2I; fail "lk"; exact Nat.le_of_ble_eq_true rfl)
  | (refine And.intro (lg_small ?_) ?_; omega)
  | (apply joinI3; fail "sl"; fail "lg"; fail "lg"; fail "lg"; decide)
  | (apply enI; fail "st")
  | (apply enL; fail "sl")
  | (apply ppL; fail "sl")
  | (apply ppT; fail "st")
  | (apply pqL; fail "sl")
  | (apply pqT; fail "st")
  | (apply pzL; fail "sl"; fail "sl")
  | (apply pzT; fail "st"; fail "st")
  | (apply pzM; fail "sl"; fail "st")
  | (refine Or.inl ⟨_, rfl, ?_⟩)
  | (refine Or.inr ⟨_, rfl, ?_⟩)
  | (apply pxL; fail "sl")
  | (apply pxT; fail "st")
  | (refine iteTI rfl ?_)
  | (refine iteFI Bool.false_ne_true ?_)
  | (refine iteTI ?_ ?_; (simp [*]; done))
  | (refine iteFI ?_ ?_; (simp [*]; done))
  | (refine And.intro ?_ ?_; first | decide | (simp only [List.length_append, List.length_cons, List.length_nil]; decide)))
local macro_rules | `(tactic| fail "tx") => `(tactic| repeat (fail "tx1"))
local macro_rules | `(tactic| fail "om") => `(tactic| first
  | omega
  | (dsimp only; omega)
  | (split <;> omega)
  | (dsimp only; split <;> omega))
local macro_rules | `(tactic| fail "bx1") => `(tactic| first
  | (refine iteD (fun _ => ?_) (fun _ => ?_))
  | (refine iteN (fun _ => ?_) (fun _ => ?_))
  | (refine iteE (fun _ => ?_) (fun _ => ?_))
  | (refine iteTI rfl ?_)
  | (refine iteFI Bool.false_ne_true ?_)
  | (refine ⟨_, rfl, ?_⟩)
  | (refine ⟨_, _, rfl, rfl, ?_⟩)
  | (refine ⟨rfl, ?_⟩)
  | (refine ⟨_, _, rfl, ?_⟩)
  | (apply mulR; with_reducible assumption)
  | (apply mulL; with_reducible assumption)
  | (apply mulL; refine ⟨?_, ?_⟩ <;> fail "om")
  | (apply powI; fail "om"))
local macro_rules | `(tactic| fail "bx") => `(tactic| repeat' (fail "bx1"))

/-- a jar: a list of three whole numbers, the last two within bounds -/
def Jar (H : Hp) (p : Addr) : Prop := ∃ a b c : Int, H p = some (.lst [.int a, .int b, .int c]) ∧ 0 ≤ b ∧ b < 2147483648 ∧ 0 ≤ c
section
variable {P : Program} {w : World} {K : PySem.W.Frag} {mg : Str → Option Value} {base : Heap} {f : Addr} {fd : FuncData} {C : Addr}
structure spDip (vs : List V) (H : Hp) (Q : VK) (E : XK) : Prop where
  ex : ∃ p n, vs = [.ref p, .int n] ∧ Jar H p ∧ 0 < n ∧ n < 1000000 ∧ ∀ H' r, (∀ b u, b ≠ p → H b = some u → H' b = some u) → Jar H' p → 0 ≤ r → r < n → Q (.int r) H'
theorem ok_law_dip (T : Tx K mg) (F : FnP K "_law_dip" s_law_dip f fd) : FnOk P w K mg base CX0 1 f fd ps_law_dip spDip := by
  refine F.ok sc_law_dip (fun vs H Q E h => ?_) (fun cdv A outer s H vs Q E hr h => ?_)
  · obtain ⟨p, n, rfl, _⟩ := h
    rfl
  · obtain ⟨p, n, rfl, ⟨a, b, c, hp, b0, b1, c0⟩, n0, n1, k⟩ := h
    refine ⟨_, PSs.nox (pss_cons (ps_asg (pe_op op_add (pe_ix (k_ixl (K := K) rfl) (pv 0) pe_int (fun _ _ => rfl)) pe_int) (pg_sub (pv 0) pe_int set_list))
    (pss_cons (ps_if (pt_cmpR op_gt (pe_ix (k_ixl (K := K) rfl) (pv 0) pe_int (fun _ _ => rfl)) pe_int (nomark _))
    (pss_cons (ps_asg (pe_callB call_divmod (by rfl) T.b_divmod (by decide +kernel) (pa_cons (pe_ix (k_ixl (K := K) rfl) (pv 0) pe_int (fun _ _ => rfl)) (pa_cons (pv 1) pa_nil))) (k_tup (K := K) (n := 2) rfl (by rfl) (pgs_cons (pg_sub (pv 0) pe_int set_list) (pgs_cons (pg_name (i := 2) sc_law_dip.nd rfl (by first | exact Or.inl rfl | exact Or.inr rfl)) pgs_nil))))
    (pss_one (ps_ret (pv 2))))
    pss_nil)
    (pss_cons (ps_asg (pe_op op_mod (pe_callTy call_int1 (by rfl) T.b_int (by decide +kernel) (pa_cons (pe_op op_add (pe_op op_mul (pe_ix (k_ixl (K := K) rfl) (pv 0) pe_int (fun _ _ => rfl)) pe_int) (pe_op op_mul pe_int (pe_ix (k_ixl (K := K) rfl) (pv 0) pe_int (fun _ _ => rfl)))) pa_nil)) pe_int) (pg_sub (pv 0) pe_int set_list))
    (pss_one (ps_ret (pe_op op_mod (pe_callTy call_int1 (by rfl) T.b_int (by decide +kernel) (pa_cons (pe_op op_fdivN (pe_ix (k_ixl (K := K) rfl) (pv 0) pe_int (fun _ _ => rfl)) pe_int) pa_nil)) (pv 1))))))), ?_⟩
    have m1 : Sm 48271 := ⟨by decide, by decide⟩
    have m2 : Sm 30029 := ⟨by decide, by decide⟩
    fail "sx"
    refine iteD (fun h1 => ?_) (fun h1 => ?_)
    · fail "sx"
      refine ⟨⟨n0, by omega⟩, ?_⟩
      fail "sx"
      rename_i T t1 t2 t3
      refine k _ _ (fun x u nx hx => ?_) ⟨_, _, _, upd_same, b0, b1, by omega⟩ (Int.emod_nonneg _ (by omega)) (Int.emod_lt_of_pos _ n0)
      exact (upd_ne nx).trans ((upd_ne (old_ne hx t3).1).trans ((upd_ne nx).trans hx))
    · fail "sx"
      refine ⟨⟨by decide, by decide⟩, ?_⟩
      fail "sx"
      refine ⟨n0, ?_⟩
      refine k _ _ (fun x u nx hx => ?_) ⟨_, _, _, upd_same, Int.emod_nonneg _ (by decide), by have := Int.emod_lt_of_pos (b * 48271 + 30029 * (c + 1)) (show (0 : Int) < 2147483399 by decide); omega, by omega⟩ (Int.emod_nonneg _ (by omega)) (Int.emod_lt_of_pos _ n0)
      exact (upd_ne nx).trans ((upd_ne nx).trans hx)
end
end G41
set_option Elab.async false
set_option linter.all false
set_option maxRecDepth 100000
set_option maxHeartbeats 4000000
namespace G41
open PySem PySem.Spec PyProof.Rows L2
/-! a comprehension over a list of any length, item by item -/
/-- what is said of items stands while objects are made and lists change -/
structure Stab (R : Nat → V → Hp → Prop) : Prop where
  same : ∀ i y H H', Same H H' → R i y H → R i y H'
  lst : ∀ i y H a zs o, H a = some (.lst zs) → R i y H → R i y (upd H a o)
theorem lc_map {K : PySem.W.Frag} {a : Addr} {xs : List V} {g : TG} {te : TE} {vs : List Nat} {σ : L2.St} {H0 : Hp} {D : Addr} {Qd : Hp → Prop} (R : Nat → V → Hp → Prop) (sR : Stab R) (hD : H0 D = none) (hx : SqL K H0 a xs) (hlen : xs.length ≤ 100000)
    (step : ∀ i x H (Qc : V → Hp → Prop), xs[i]? = some x → Same H0 H → (∀ y H4, Same H H4 → R i y H4 → Qc y H4) → g x (wipe σ vs) H fun σ2 H2 => wipe σ2 vs = wipe σ vs ∧ te σ2 H2 Qc)
    (k : ∀ H' ys, Same H0 H' → H' D = some (.lst ys) → ys.length = xs.length → (∀ i y, ys[i]? = some y → R i y H') → Qd H') : LcG (Itl K a) g tYes te vs σ H0 D Qd := by
  refine lc_list (K := K) (a := a) (xs := xs) (fun i H => Same H0 H ∧ ∃ ys, H D = some (.lst ys) ∧ ys.length = i ∧ ∀ j y, ys[j]? = some y → R j y H)
    ⟨same_new hD, [], upd_same, rfl, fun j y h => by cases h⟩ (fun i H _ q => lst_same hx q.1) (fun i x H hi q => ?_) (fun H q => ?_)
  · obtain ⟨s, ys, hd, hl, hy⟩ := q
    have hi2 : i < xs.length := (List.getElem?_eq_some_iff.mp hi).1
    refine step i x H (fun y H4 => ∃ acc, H4 D = some (.lst acc) ∧ acc.length < sizeLine ∧ (Same H0 (upd H4 D (.lst (acc ++ [y]))) ∧ ∃ ys', upd H4 D (.lst (acc ++ [y])) D = some (.lst ys') ∧ ys'.length = i + 1 ∧ ∀ j z, ys'[j]? = some z → R j z (upd H4 D (.lst (acc ++ [y]))))) hi s (fun y H4 s4 r => ?_)
    have hd4 := s4 _ _ hd
    refine ⟨ys, hd4, Nat.lt_of_le_of_lt (show ys.length ≤ 100000 by omega) (by decide), same_mut (s.trans s4) hD, ys ++ [y], upd_same, by rw [List.length_append, hl]; rfl, fun j z hz => ?_⟩
    refine sR.lst _ _ _ _ _ _ hd4 ?_
    rcases Nat.lt_trichotomy j ys.length with q | q | q
    · rw [List.getElem?_append_left q] at hz
      exact sR.same _ _ _ _ s4 (hy j z hz)
    · subst q
      rw [List.getElem?_append_right (Nat.le_refl _), Nat.sub_self] at hz
      cases hz
      rw [hl]
      exact r
    · rw [List.getElem?_eq_none (by rw [List.length_append]; show ys.length + 1 ≤ j; omega)] at hz
      cases hz
  · obtain ⟨s, ys, hd, hl, hy⟩ := q
    exact k H ys s hd hl hy
/-- a list of Forms -/
def FormsAt (K : PySem.W.Frag) (C : Addr) (H : Hp) (p : Addr) (ts : List T3) : Prop := ∃ fs : List Addr, H p = some (.lst (fs.map V.ref)) ∧ fs.length = ts.length ∧ ∀ (i : Nat) f t, fs[i]? = some f → ts[i]? = some t → FormAt K C H f t
def RForm (K : PySem.W.Frag) (C : Addr) (ts : List T3) : Nat → V → Hp → Prop := fun i y H => ∃ f t, y = .ref f ∧ ts[i]? = some t ∧ FormAt K C H f t
def RTup (K : PySem.W.Frag) (ts : List T3) : Nat → V → Hp → Prop := fun i y H => ∃ p t, y = .ref p ∧ ts[i]? = some t ∧ T3At K H p t
theorem stab_form {K : PySem.W.Frag} {C : Addr} {ts : List T3} : Stab (RForm K C ts) :=
  ⟨fun i y H H' e h => let ⟨f, t, h1, h2, h3⟩ := h; ⟨f, t, h1, h2, form_same h3 e⟩, fun i y H a zs o ha h => let ⟨f, t, h1, h2, h3⟩ := h; ⟨f, t, h1, h2, form_upd ha h3⟩⟩
theorem stab_tup {K : PySem.W.Frag} {ts : List T3} : Stab (RTup K ts) :=
  ⟨fun i y H H' e h => let ⟨f, t, h1, h2, h3⟩ := h; ⟨f, t, h1, h2, same_tup e h3⟩, fun i y H a zs o ha h => let ⟨f, t, h1, h2, h3⟩ := h; ⟨f, t, h1, h2, tup_upd ha h3⟩⟩
theorem refs_of {R : Addr → Nat → Prop} : ∀ (ys : List V), (∀ (i : Nat) y, ys[i]? = some y → ∃ f, y = V.ref f ∧ R f i) → ∃ fs : List Addr, ys = fs.map V.ref ∧ ∀ (i : Nat) f, fs[i]? = some f → R f i := by
  intro ys h
  have h1 : ∃ fs : List Addr, ys = fs.map V.ref := by
    have h2 : ∀ y ∈ ys, ∃ f, y = V.ref f := fun y hy => by
      obtain ⟨i, hi⟩ := List.mem_iff_getElem?.mp hy
      obtain ⟨f, e, _⟩ := h i y hi
      exact ⟨f, e⟩
    clear h
    induction ys with
    | nil => exact ⟨[], rfl⟩
    | cons y ys ih =>
      obtain ⟨fs, e⟩ := ih fun z hz => h2 z (List.mem_cons_of_mem _ hz)
      obtain ⟨f, e2⟩ := h2 y List.mem_cons_self
      exact ⟨f :: fs, by rw [e, e2]; rfl⟩
  obtain ⟨fs, rfl⟩ := h1
  refine ⟨fs, rfl, fun i f hf => ?_⟩
  obtain ⟨f', e, r⟩ := h i (.ref f) (by rw [List.getElem?_map, hf]; rfl)
  cases e
  exact r
end G41
set_option Elab.async false
set_option linter.all false
set_option maxRecDepth 100000
set_option maxHeartbeats 4000000
namespace G41
open PySem PySem.Spec PyProof.Rows L2
theorem first_at {α : Type} [DecidableEq α] {x : α} : ∀ {l : List α}, x ∈ l → ∃ j, l[j]? = some x ∧ ∀ (m : Nat) z, m < j → l[m]? = some z → z ≠ x
  | [], h => by cases h
  | y :: l, h => by
    by_cases e : y = x
    · subst e
      exact ⟨0, rfl, fun m z hm => absurd hm (Nat.not_lt_zero m)⟩
    · have h2 : x ∈ l := by
        rcases List.mem_cons.mp h with h | h
        · exact absurd h.symm e
        · exact h
      obtain ⟨j, h3, h4⟩ := first_at h2
      refine ⟨j + 1, h3, fun m z hm hz => ?_⟩
      cases m with
      | zero => cases hz; exact e
      | succ m => exact h4 m z (by omega) hz
theorem minT_mem : ∀ (rs : List T3) (r : T3), minT r rs ∈ r :: rs
  | [], r => List.mem_cons_self
  | y :: rs, r => by
    have ih := minT_mem rs (if ltT y r = true then y else r)
    show minT (if ltT y r = true then y else r) rs ∈ r :: y :: rs
    rcases List.mem_cons.mp ih with h | h
    · rw [h]
      split
      · exact List.mem_cons_of_mem _ List.mem_cons_self
      · exact List.mem_cons_self
    · exact List.mem_cons_of_mem _ (List.mem_cons_of_mem _ h)
theorem shaped_d3 (t : T3) : SeqAt.shaped (d3 t) = true := by rfl
theorem cut_hi {xs : List V} {j : Nat} (h : j ≤ xs.length) : cutV xs (some (j : Int)) none = xs.drop j := by
  unfold cutV
  have e : HT.sIx xs.length 0 (some (j : Int)) = j := by
    rw [HT.sIx_nat]
    omega
  rw [e]
  have e2 : HT.sIx xs.length xs.length none = xs.length := rfl
  rw [e2, ← List.length_drop, List.take_length]
theorem cut_lo {xs : List V} {j : Nat} (h : j ≤ xs.length) : cutV xs none (some (j : Int)) = xs.take j := by
  unfold cutV
  have e : HT.sIx xs.length xs.length (some (j : Int)) = j := by
    rw [HT.sIx_nat]
    omega
  rw [e]
  have e2 : HT.sIx xs.length 0 none = 0 := rfl
  rw [e2, List.drop_zero, Nat.sub_zero]
theorem mem_rot {α : Type} {l : List α} {j : Nat} {x : α} : x ∈ l.drop j ++ l.take j ↔ x ∈ l := by
  rw [List.mem_append]
  constructor
  · rintro (h | h)
    · exact List.mem_of_mem_drop h
    · exact List.mem_of_mem_take h
  · intro h
    rw [← List.take_append_drop j l, List.mem_append] at h
    exact h.symm
theorem head_rot {α : Type} {l : List α} {j : Nat} {x : α} (h : l[j]? = some x) : (l.drop j ++ l.take j).head? = some x := by
  have : (l.drop j).head? = some x := by rw [List.head?_drop]; exact h
  rw [List.head?_append, this]
  rfl
theorem canLayAll_d3 : ∀ ts : List T3, PyData.canLayAll0 (ts.map d3) = true
  | [] => rfl
  | t :: ts => by
    show (PyData.canLay0 (d3 t) && PyData.canLayAll0 (ts.map d3)) = true
    rw [canLayAll_d3 ts]
    rfl
theorem shaped_list (ts : List T3) : SeqAt.shaped (.list (ts.map d3)) = true := by
  unfold SeqAt.shaped
  have h1 : PyData.canLay0 (.list (ts.map d3)) = true := canLayAll_d3 ts
  have h2 : PyData.depth (.list (ts.map d3)) ≤ 64 := by
    have := depth_all ts
    show PyData.depthAll (ts.map d3) + 1 ≤ 64
    omega
  rw [h1, decide_eq_true h2]
  rfl
end G41
set_option Elab.async false
set_option linter.all false
set_option maxRecDepth 100000
set_option maxHeartbeats 4000000
namespace G41
open PySem PySem.Spec PyProof.Rows L2
abbrev s_ring_of : Stmt := top 60
abbrev nm_ring_of : List Str := ["form", "forms", "rows", "spot", "one", "change"]
abbrev ps_ring_of : List Str := ["form"]
theorem sc_ring_of : FnScope nm_ring_of ps_ring_of (defScope s_ring_of) := ⟨rfl, rfl, rfl, by decide +kernel, rfl, by decide +kernel, by decide +kernel⟩
abbrev s_lead_of : Stmt := top 61
abbrev nm_lead_of : List Str := ["form"]
abbrev ps_lead_of : List Str := ["form"]
theorem sc_lead_of : FnScope nm_lead_of ps_lead_of (defScope s_lead_of) := ⟨rfl, rfl, rfl, by decide +kernel, rfl, by decide +kernel, by decide +kernel⟩
theorem hu65 {k : Nat} {A : Around} (hr : Room (k + 1) A) : A.units + 65 < cLine := by
  have h := hr.in1.units
  have e : A.in1.units = A.units + 1 := rfl
  omega
theorem k_min3 {X : Cx} {K : PySem.W.Frag} (h : X.K = K) (hr : X.A.units + 64 < cLine) (hc : X.calm = true) : CallR X (.builtin "min") (rMinT3 K) := h ▸ cr_minT3 hr hc
theorem ringC_len : ∀ {n : Nat} {g t : T3} {rs : List T3}, ringC n g t = some rs → rs.length ≤ n
  | 0, _, _, _, h => by cases h
  | n + 1, g, t, rs, h => by
    obtain ⟨_, k, e, c⟩ := ringC_split h
    have e' : n = k := by omega
    subst e'
    rcases c with ⟨_, rfl⟩ | ⟨_, r', rfl, h2⟩
    · exact Nat.zero_le _
    · have := ringC_len h2
      show r'.length + 1 ≤ n + 1
      omega
theorem ring_len {r : T3} {rs : List T3} {m : Nat} (hc : (dsc r < 0 ∧ rs = []) ∨ (¬ dsc r < 0 ∧ bndC (stepM r) = true ∧ ringC m r (stepM r) = some rs)) (hm : m ≤ 900) : rs.length ≤ 900 := by
  rcases hc with ⟨_, rfl⟩ | ⟨_, _, h⟩
  · exact Nat.zero_le _
  · have := ringC_len h
    omega
local macro_rules | `(tactic| fail "rd1") => `(tactic| first
  | refine ⟨_, rfl, ?_⟩
  | refine ⟨_, _, rfl, rfl, ?_⟩
  | refine ⟨rfl, ?_⟩
  | refine ⟨_, _, rfl, ?_⟩
  | refine ⟨_, _, _, rfl, ?_⟩
  | fail)
local macro_rules | `(tactic| fail "rd") => `(tactic| repeat (fail "rd1"))
local macro_rules | `(tactic| fail "nn") => `(tactic| first
  | with_reducible assumption
  | (apply lkn; fail "ne"; fail "nn")
  | (apply none_same; with_reducible assumption; fail "sm"))
local macro_rules | `(tactic| fail "ne") => `(tactic| first
  | with_reducible assumption
  | exact (old_ne (by with_reducible assumption) (by with_reducible assumption)).1
  | exact (old_ne (by with_reducible assumption) (by with_reducible assumption)).2
  | (apply ne_new1; with_reducible assumption; fail "lk")
  | (apply ne_new2; with_reducible assumption; fail "lk"))
local macro_rules | `(tactic| fail "lk") => `(tactic| first
  | with_reducible assumption
  | exact upd_same
  | (apply lkn; fail "ne"; fail "lk")
  | (apply same_upd; with_reducible assumption; fail "lk"))
local macro_rules | `(tactic| fail "sm") => `(tactic| first
  | with_reducible assumption
  | exact Same.refl _
  | (apply same_mut; fail "sm"; fail "nn")
  | (apply trans_same; with_reducible assumption; fail "sm"))
local macro_rules | `(tactic| fail "sl") => `(tactic| first
  | with_reducible assumption
  | (apply lst_same; with_reducible assumption; fail "sm")
  | (apply SqL.of; fail "lk")
  | (apply lst_new; fail "nn"; fail "sl")
  | (apply lst_updn; fail "ne"; fail "sl")
  | (apply lst_trans; with_reducible assumption; fail "sl"))
local macro_rules | `(tactic| fail "st") => `(tactic| first
  | with_reducible assumption
  | (apply tup_same; with_reducible assumption; fail "sm")
  | (apply SqT.of; fail "lk")
  | (apply tup_new; fail "nn"; fail "st")
  | (apply tup_upd; fail "lk"; fail "st")
  | (apply tup_trans; with_reducible assumption; fail "st")
  | (apply tup_updI; fail "lk"; fail "st"))
local macro_rules | `(tactic| fail "nw") => `(tactic| (repeat (refine nwI (fun _ _ => ?_))); refine fun _ => ?_)
local macro_rules | `(tactic| fail "ln") => `(tactic| first
  | exact lenLt (Nat.le_of_ble_eq_true rfl)
  | exact Nat.le_of_ble_eq_true rfl)
local macro_rules | `(tactic| fail "un") => `(tactic| first
  | apply un_lcR
  | (refine un_lc2 2 ?_)
  | (apply un_lcL; fail "sl")
  | (apply un_lcT; fail "st")
  | (apply un_lcZ; fail "sl")
  | (apply un_lcZT; fail "st")
  | (apply un_lcZM; fail "sl"))
local macro_rules | `(tactic| fail "uf") => `(tactic| first
  | apply un_forR
  | (apply un_forL; fail "sl")
  | (apply un_forT; fail "st")
  | (apply un_forZ; fail "sl")
  | (apply un_forZT; fail "st")
  | (apply un_forZM; fail "sl")
  | (apply un_forE; fail "st"))
local macro_rules | `(tactic| fail "ns") => `(tactic| try simp only [wipe, L2.start, List.set_cons_zero, List.set_cons_succ, List.map_cons, List.map_nil, List.length_cons, List.length_nil, List.replicate_succ, List.replicate_zero, List.cons_append, List.nil_append, Nat.reduceAdd, Nat.reduceSub])
local macro_rules | `(tactic| fail "da") => `(tactic| first
  | exact DpAll.nil
  | (apply DpAll.cons; (first | exact Dp.int _ | (apply Dp.tup; fail "st"; fail "da") | (apply Dp.lst; fail "sl"; fail "da") | exact Dp.bl _ | exact Dp.str _); fail "da"))
local macro_rules | `(tactic| fail "dp") => `(tactic| first
  | exact Dp.int _
  | (apply Dp.tup; fail "st"; fail "da")
  | (apply Dp.lst; fail "sl"; fail "da"))
local macro_rules | `(tactic| fail "so") => `(tactic| first
  | (apply sx_upd; fail "so")
  | (apply sx_mut; fail "so"; fail "nn")
  | (apply sx_of; fail "sm"))
local macro_rules | `(tactic| fail "lg") => `(tactic| (refine PyProof.Rows.int_text_len_1921 (lg_small ?_); omega))
local macro_rules | `(tactic| fail "sx1") => `(tactic| (conv => whnf); first
  | (refine fun _ => ?_; fail "nw"; first | fail "un" | skip)
  | (refine fun _ => ?_)
  | (refine wipe_1 (by decide) ?_; fail "ns")
  | (refine wipe_2 (by decide) (by decide) ?_; fail "ns")
  | (refine ⟨_, rfl, ?_⟩)
  | (refine ⟨rfl, ?_⟩)
  | (refine ⟨_, _, rfl, rfl, ?_⟩)
  | (refine ⟨_, _, rfl, ?_⟩)
  | (refine ⟨_, _, _, rfl, ?_⟩)
  | apply un_forR
  | (apply un_forL; fail "sl")
  | (apply un_forT; fail "st")
  | (apply un_forZ; fail "sl")
  | (apply un_forZT; fail "st")
  | (apply un_forZM; fail "sl")
  | (apply un_forE; fail "st")
  | apply un_inR
  | (apply tyI; fail "sl")
  | (apply dpI; fail "dp"; fail "dp"; rfl; rfl)
  | (apply gtI; fail "st"; rfl)
  | apply isi_ii
  | apply isi_ib
  | (apply isi_tt; fail "st")
  | refine divN1 ?_
  | (apply nx_range; exact Nat.le_of_ble_eq_true rfl)
  | (apply nx_list; fail "sl"; rfl)
  | (apply nx_tup; fail "st"; rfl)
  | (apply nx_zip; fail "sl"; fail "sl"; rfl; rfl)
  | (apply nx_zipT; fail "st"; fail "st"; rfl; rfl)
  | (apply nx_zipM; fail "sl"; fail "st"; rfl; rfl)
  | (apply nx_enumT; fail "st"; rfl)
  | (apply st_range; fail "ln")
  | (apply st_list; fail "sl"; fail "ln")
  | (apply st_tup; fail "st"; fail "ln")
  | (apply st_zip; fail "sl"; fail "sl"; fail "ln")
  | (apply st_zipT; fail "st"; fail "st"; fail "ln")
  | (apply st_zipM; fail "sl"; fail "st"; rfl; rfl)
  | (apply st_enumT; fail "st"; rfl)
  | (apply mulR; with_reducible assumption)
  | (apply mulL; with_reducible assumption)
  | (apply accI; fail "lk"; fail "ln")
  | (apply apdI; fail "lk"; fail "ln")
  | (apply ixLI; fail "sl"; rfl)
  | (apply ixTI; fail "st"; rfl)
  | (apply setI; fail "lk"; rfl)
  | (apply slLI; fail "sl")
  | (apply sum2I; fail "sl")
  | (apply rep2I; fail "lk"; exact Nat.le_of_ble_eq_true rfl)
  | (refine And.intro (lg_small ?_) ?_; omega)
  | (apply joinI3; fail "sl"; fail "lg"; fail "lg"; fail "lg"; decide)
  | (apply enI; fail "st")
  | (apply enL; fail "sl")
  | (apply ppL; fail "sl")
  | (apply ppT; fail "st")
  | (apply pqL; fail "sl")
  | (apply pqT; fail "st")
  | (apply pzL; fail "sl"; fail "sl")
  | (apply pzT; fail "st"; fail "st")
  | (apply pzM; fail "sl"; fail "st")
  | (refine Or.inl ⟨_, rfl, ?_⟩)
  | (refine Or.inr ⟨_, rfl, ?_⟩)
  | (apply pxL; fail "sl")
  | (apply pxT; fail "st")
  | (refine iteTI rfl ?_)
  | (refine iteFI Bool.false_ne_true ?_)
  | (refine iteTI ?_ ?_; (simp [*]; done))
  | (refine iteFI ?_ ?_; (simp [*]; done))
  | (refine And.intro ?_ ?_; first | decide | (simp only [List.length_append, List.length_cons, List.length_nil]; decide)))
local macro_rules | `(tactic| fail "sx") => `(tactic| repeat (fail "sx1"))
local macro_rules | `(tactic| fail "tx1") => `(tactic| (conv => whnf); first
  | (refine fun _ => ?_; fail "nw")
  | (refine fun _ => ?_)
  | (refine wipe_1 (by decide) ?_; fail "ns")
  | (refine wipe_2 (by decide) (by decide) ?_; fail "ns")
  | (refine ⟨_, rfl, ?_⟩)
  | (refine ⟨rfl, ?_⟩)
  | (refine ⟨_, _, rfl, rfl, ?_⟩)
  | (refine ⟨_, _, rfl, ?_⟩)
  | (refine ⟨_, _, _, rfl, ?_⟩)
  | apply un_forR
  | (apply un_forL; fail "sl")
  | (apply un_forT; fail "st")
  | (apply un_forZ; fail "sl")
  | (apply un_forZT; fail "st")
  | (apply un_forZM; fail "sl")
  | (apply un_forE; fail "st")
  | apply un_inR
  | (apply tyI; fail "sl")
  | (apply dpI; fail "dp"; fail "dp"; rfl; rfl)
  | (apply gtI; fail "st"; rfl)
  | apply isi_ii
  | apply isi_ib
  | (apply isi_tt; fail "st")
  | refine divN1 ?_
  | (apply nx_range; exact Nat.le_of_ble_eq_true rfl)
  | (apply nx_list; fail "sl"; rfl)
  | (apply nx_tup; fail "st"; rfl)
  | (apply nx_zip; fail "sl"; fail "sl"; rfl; rfl)
  | (apply nx_zipT; fail "st"; fail "st"; rfl; rfl)
  | (apply nx_zipM; fail "sl"; fail "st"; rfl; rfl)
  | (apply nx_enumT; fail "st"; rfl)
  | (apply st_range; fail "ln")
  | (apply st_list; fail "sl"; fail "ln")
  | (apply st_tup; fail "st"; fail "ln")
  | (apply st_zip; fail "sl"; fail "sl"; fail "ln")
  | (apply st_zipT; fail "st"; fail "st"; fail "ln")
  | (apply st_zipM; fail "sl"; fail "st"; rfl; rfl)
  | (apply st_enumT; fail "st"; rfl)
  | (apply mulR; with_reducible assumption)
  | (apply mulL; with_reducible assumption)
  | (apply accI; fail "lk"; fail "ln")
  | (apply apdI; fail "lk"; fail "ln")
  | (apply ixLI; fail "sl"; rfl)
  | (apply ixTI; fail "st"; rfl)
  | (apply setI; fail "lk"; rfl)
  | (apply slLI; fail "sl")
  | (apply sum2I; fail "sl")
  | (apply rep2I; fail "lk"; exact Nat.le_of_ble_eq_true rfl)
  | (refine And.intro (lg_small ?_) ?_; omega)
  | (apply joinI3; fail "sl"; fail "lg"; fail "lg"; fail "lg"; decide)
  | (apply enI; fail "st")
  | (apply enL; fail "sl")
  | (apply ppL; fail "sl")
  | (apply ppT; fail "st")
  | (apply pqL; fail "sl")
  | (apply pqT; fail "st")
  | (apply pzL; fail "sl"; fail "sl")
  | (apply pzT; fail "st"; fail "st")
  | (apply pzM; fail "sl"; fail "st")
  | (refine Or.inl ⟨_, rfl, ?_⟩)
  | (refine Or.inr ⟨_, rfl, ?_⟩)
  | (apply pxL; fail "sl")
  | (apply pxT; fail "st")
  | (refine iteTI rfl ?_)
  | (refine iteFI Bool.false_ne_true ?_)
  | (refine iteTI ?_ ?_; (simp [*]; done))
  | (refine iteFI ?_ ?_; (simp [*]; done))
  | (refine And.intro ?_ ?_; first | decide | (simp only [List.length_append, List.length_cons, List.length_nil]; decide)))
local macro_rules | `(tactic| fail "tx") => `(tactic| repeat (fail "tx1"))
local macro_rules | `(tactic| fail "om") => `(tactic| first
  | omega
  | (dsimp only; omega)
  | (split <;> omega)
  | (dsimp only; split <;> omega))
local macro_rules | `(tactic| fail "bx1") => `(tactic| first
  | (refine iteD (fun _ => ?_) (fun _ => ?_))
  | (refine iteN (fun _ => ?_) (fun _ => ?_))
  | (refine iteE (fun _ => ?_) (fun _ => ?_))
  | (refine iteTI rfl ?_)
  | (refine iteFI Bool.false_ne_true ?_)
  | (refine ⟨_, rfl, ?_⟩)
  | (refine ⟨_, _, rfl, rfl, ?_⟩)
  | (refine ⟨rfl, ?_⟩)
  | (refine ⟨_, _, rfl, ?_⟩)
  | (apply mulR; with_reducible assumption)
  | (apply mulL; with_reducible assumption)
  | (apply mulL; refine ⟨?_, ?_⟩ <;> fail "om")
  | (apply powI; fail "om"))
local macro_rules | `(tactic| fail "bx") => `(tactic| repeat' (fail "bx1"))

section
variable {P : Program} {w : World} {K : PySem.W.Frag} {mg : Str → Option Value} {base : Heap} {f : Addr} {fd : FuncData} {C : Addr}
structure spRO (K : PySem.W.Frag) (C : Addr) (vs : List V) (H : Hp) (Q : VK) (E : XK) : Prop where
  ex : ∃ a t r n m rs, vs = [.ref a] ∧ FormAt K C H a t ∧ redC n t = some r ∧ bndC r = true ∧ m ≤ 900 ∧ ((dsc r < 0 ∧ rs = []) ∨ (¬ dsc r < 0 ∧ bndC (stepM r) = true ∧ ringC m r (stepM r) = some rs)) ∧
    ∀ H' q ts, Same H H' → H q = none → FormsAt K C H' q ts → ts.head? = some (minT r rs) → (∀ x, x ∈ ts ↔ x ∈ r :: rs) → Q (.ref q) H'
theorem ok_ring_of (T : Tx K mg) (CP_coefficients : PrpF P w K mg base C "coefficients" 1 ps_Form_coefficients (spCoef K C)) (C_reduced_with : Cal P w K mg base 9 "reduced_with" ps_reduced_with (spRW K C)) (C_ring_from : Cal P w K mg base 9 "ring_from" ps_ring_from (spRing K C))
    (F : FnP K "ring_of" s_ring_of f fd) : FnOk P w K mg base CX0 10 f fd ps_ring_of (spRO K C) := by
  refine F.ok sc_ring_of (fun vs H Q E h => ?_) (fun cdv A outer s H vs Q E hr h => ?_)
  · obtain ⟨a, t, r, n, m, rs, rfl, _⟩ := h
    rfl
  · obtain ⟨a, t, r, n, m, rs, rfl, hf, hn, hb, hm, hc, k⟩ := h
    refine ⟨_, PSs.nox (pss_cons (ps_setLc (i := 1) (own := [("one", 4), ("change", 5)]) rfl sc_ring_of.nd rfl rfl (sw_true rfl rfl rfl (by decide +kernel)) (k_pl (K := K) rfl (pe_cal C_ring_from hr (pa_cons (pe_ix (k_ixt (K := K) rfl) (pe_cal C_reduced_with hr (pa_cons (pv 0) pa_nil)) pe_int (fun _ _ => rfl)) pa_nil))) (blkOk_by (own := [("one", 4), ("change", 5)]) (by kernel_rfl)) (fun _ _ _ _ _ => (k_tup (K := K) (n := 2) rfl (by rfl) (pgs_cons (pg_name (i := 4) sc_ring_of.nd rfl (by first | exact Or.inl rfl | exact Or.inr rfl)) (pgs_cons (pg_name (i := 5) sc_ring_of.nd rfl (by first | exact Or.inl rfl | exact Or.inr rfl)) pgs_nil)))) (fun _ _ _ _ _ => pts_nil) (fun _ _ _ _ _ => (pv 4)))
    (pss_cons (ps_setLc (i := 2) (own := [("one", 4)]) rfl sc_ring_of.nd rfl rfl (sw_true rfl rfl rfl (by decide +kernel)) (k_pl (K := K) rfl (pv 1)) (blkOk_by (own := [("one", 4)]) (by kernel_rfl)) (fun _ _ _ _ _ => (pg_name (i := 4) sc_ring_of.nd rfl (by first | exact Or.inl rfl | exact Or.inr rfl))) (fun _ _ _ _ _ => pts_nil) (fun _ _ _ _ _ => (pe_prp CP_coefficients hr (pv 4))))
    (pss_cons (ps_set (i := 3) sc_ring_of.nd rfl (Or.inl rfl) (pe_bm PySem.F.plainAttrs_list PySem.F.slot_list_index PySem.F.type_list_index (k_index (K := K) rfl (hu65 hr)) (pv 2) (pa_cons (pe_callB (k_min3 (K := K) rfl hr.units rfl) (by rfl) T.b_min (by decide +kernel) (pa_cons (pv 2) pa_nil)) pa_nil)))
    (pss_one (ps_ret (pe_op op_cat (pe_slice (k_slL (K := K) rfl) (pv 1) (po_some (pv 3)) po_none) (pe_slice (k_slL (K := K) rfl) (pv 1) po_none (po_some (pv 3))))))))), ?_⟩
    fail "sx"
    refine ⟨⟨a, t, r, n, rfl, hf, hn, fun H1 q1 g1 p1 s1 h1 h2 => ?_⟩⟩
    fail "sx"
    refine ⟨⟨g1, r, m, rs, rfl, h2, hb, by omega, hc, fun H2 q2 ps s2 hq0 hq hP => ?_⟩⟩
    fail "tx"
    refine lc_map (RForm K C (r :: rs)) stab_form (by assumption) (SqL.of hq) (by rw [List.length_map, hP.1]; show rs.length + 1 ≤ 100000; have := ring_len hc hm; omega) (fun i x H5 Qc hi s5 kq => ?_) (fun H5 ys s5 hd5 hl5 hy5 => ?_)
    · obtain ⟨p5, hp5, rfl⟩ : ∃ p, ps[i]? = some p ∧ x = V.ref p := by
        rw [List.getElem?_map] at hi
        cases e : ps[i]? with
        | none => rw [e] at hi; cases hi
        | some p => rw [e] at hi; exact ⟨p, rfl, (Option.some.inj hi).symm⟩
      have hi2 : i < (r :: rs).length := by rw [← hP.1]; exact (List.getElem?_eq_some_iff.mp hp5).1
      obtain ⟨f5, c5, g5, g6⟩ := hP.2 i p5 _ hp5 (List.getElem?_eq_getElem hi2)
      have g7 : SqT K H5 p5 [.ref f5, .ref c5] := same_tup s5 g5
      fail "sx"
      exact kq _ _ (Same.refl _) ⟨f5, _, rfl, List.getElem?_eq_getElem hi2, form_same g6 s5⟩
    · obtain ⟨fs, rfl, hfs⟩ := refs_of (R := fun f i => ∃ t, (r :: rs)[i]? = some t ∧ FormAt K C H5 f t) ys fun i y hy => by
        obtain ⟨f, t, e1, e2, e3⟩ := hy5 i y hy
        exact ⟨f, e1, t, e2, e3⟩
      have hlf : fs.length = rs.length + 1 := by
        rw [List.length_map, List.length_map, hP.1] at hl5
        exact hl5
      fail "tx"
      refine lc_map (RTup K (r :: rs)) stab_tup (by assumption) (SqL.of hd5) (by rw [List.length_map, hlf]; have := ring_len hc hm; omega) (fun i x H6 Qc hi s6 kq => ?_) (fun H6 zs s6 hd6 hl6 hy6 => ?_)
      · obtain ⟨p5, hp5, rfl⟩ : ∃ p, fs[i]? = some p ∧ x = V.ref p := by
          rw [List.getElem?_map] at hi
          cases e : fs[i]? with
          | none => rw [e] at hi; cases hi
          | some p => rw [e] at hi; exact ⟨p, rfl, (Option.some.inj hi).symm⟩
        obtain ⟨t6, g5, g6⟩ := hfs i p5 hp5
        fail "sx"
        refine prCoef (form_same g6 s6) fun p6 g7 => ?_
        exact kq _ _ (Same.refl _) ⟨p6, t6, rfl, g5, g7⟩
      · obtain ⟨qs, rfl, hqs⟩ := refs_of (R := fun f i => ∃ t, (r :: rs)[i]? = some t ∧ T3At K H6 f t) zs fun i y hy => by
          obtain ⟨f, t, e1, e2, e3⟩ := hy6 i y hy
          exact ⟨f, e1, t, e2, e3⟩
        have hlq : qs.length = rs.length + 1 := by
          rw [List.length_map, List.length_map, hlf] at hl6
          exact hl6
        have hzm : ∀ b, b ∈ qs.zip (r :: rs) → T3At K H6 b.1 b.2 := fun b hb => by
          obtain ⟨i, hi⟩ := List.mem_iff_getElem?.mp hb
          obtain ⟨e1, e2⟩ := List.getElem?_zip_eq_some.mp hi
          obtain ⟨t6, e3, e4⟩ := hqs i b.1 e1
          rw [e2] at e3
          cases e3
          exact e4
        have hz1 : (qs.zip (r :: rs)).map (·.1) = qs := List.map_fst_zip (by rw [hlq]; exact Nat.le_refl _)
        have hz2 : (qs.zip (r :: rs)).map (·.2) = r :: rs := List.map_snd_zip (by rw [hlq]; exact Nat.le_refl _)
        obtain ⟨b0, bs, hbs⟩ : ∃ b0 bs, qs.zip (r :: rs) = b0 :: bs := by
          cases e : qs.zip (r :: rs) with
          | nil => rw [e] at hz2; cases hz2
          | cons b0 bs => exact ⟨b0, bs, rfl⟩
        rw [hbs] at hzm hz1 hz2
        have hr0 : b0.2 = r ∧ bs.map (·.2) = rs := by
          simp only [List.map_cons, List.cons.injEq] at hz2
          exact hz2
        have hrf : rf (b0 :: bs) = qs.map V.ref := by
          show (b0 :: bs).map (fun b => V.ref b.1) = _
          rw [← hz1, List.map_map]
          rfl
        have hT : TupsAt K H6 (b0 :: bs) := fun b hb => hzm b hb
        have hL6 : SqL K H6 (by rename_i D6 _; exact D6) (rf (b0 :: bs)) := by rw [hrf]; exact SqL.of hd6
        fail "sx"
        refine ⟨_, b0, bs, rfl, hL6, hT, fun pm hpm => ?_⟩
        rw [hr0.1, hr0.2] at hpm
        obtain ⟨j, hj, hj2⟩ := first_at (minT_mem rs r)
        fail "sx"
        refine ⟨_, _, d3 (minT r rs), (r :: rs).map d3, j, d3 (minT r rs), rfl, rfl, ?_, dp_tv hpm, shaped_list _, shaped_d3 _, ?_, ?_, ?_, ?_⟩
        · have hda := dp_all hT
          have e : (b0 :: bs).map (fun b => d3 b.2) = (r :: rs).map d3 := by rw [← hz2, List.map_map]; rfl
          rw [e] at hda
          exact .lst hL6 hda
        · rw [List.getElem?_map, hj]; rfl
        · rw [d3_eqv]; simp
        · intro m' z' hm' hz'
          rw [List.getElem?_map] at hz'
          cases e : (r :: rs)[m']? with
          | none => rw [e] at hz'; cases hz'
          | some z =>
            rw [e] at hz'
            cases hz'
            rw [d3_eqv]
            exact decide_eq_false (hj2 m' z hm' e)
        · fail "sx"
          rename_i S1 t1 S2 t2 t3 t4
          have hjl : j < rs.length + 1 := (List.getElem?_eq_some_iff.mp hj).1
          have hjf : j ≤ (fs.map V.ref).length := by rw [List.length_map, hlf]; omega
          have hrl := ring_len hc hm
          rw [cut_hi hjf, cut_lo hjf]
          refine ⟨S1, S2, _, _, rfl, rfl, (upd_ne t3).trans upd_same, upd_same, ?_, fun S3 t5 => ?_⟩
          · rw [List.length_drop, List.length_take, List.length_map, hlf]
            exact Nat.le_trans (show rs.length + 1 - j + min j (rs.length + 1) ≤ 2000 by omega) (by decide)
          · have sAll : Same H H6 := s1.trans (s2.trans (s5.trans s6))
            have sF : Same H6 (upd (upd (upd H6 S1 (.lst ((fs.map V.ref).drop j))) S2 (.lst ((fs.map V.ref).take j))) S3 (.lst ((fs.map V.ref).drop j ++ (fs.map V.ref).take j))) :=
              (same_new t1).trans ((same_new ((upd_ne t2).trans t4)).trans (same_new t5))
            have s6F := s6.trans sF
            refine k _ S3 ((r :: rs).drop j ++ (r :: rs).take j) (sAll.trans sF) (same_none sAll (nw (nw t5).2).2) ⟨fs.drop j ++ fs.take j, ?_, ?_, ?_⟩ (head_rot hj) (fun x => mem_rot)
            · rw [upd_same, List.map_append, List.map_drop, List.map_take]
            · rw [List.length_append, List.length_append, List.length_drop, List.length_drop, List.length_take, List.length_take, hlf]; rfl
            · intro i f t hi ht
              have hlL : (r :: rs).length = fs.length := by rw [hlf]; rfl
              rcases Nat.lt_or_ge i (fs.length - j) with q | q
              · rw [List.getElem?_append_left (by rw [List.length_drop]; exact q), List.getElem?_drop] at hi
                rw [List.getElem?_append_left (by rw [List.length_drop, hlL]; exact q), List.getElem?_drop] at ht
                obtain ⟨t', e1, e2⟩ := hfs _ f hi
                rw [ht] at e1
                cases e1
                exact form_same e2 s6F
              · rw [List.getElem?_append_right (by rw [List.length_drop]; exact q), List.length_drop, List.getElem?_take] at hi
                rw [List.getElem?_append_right (by rw [List.length_drop, hlL]; exact q), List.length_drop, hlL, List.getElem?_take] at ht
                split at hi
                · rename_i hc1
                  rw [if_pos hc1] at ht
                  obtain ⟨t', e1, e2⟩ := hfs _ f hi
                  rw [ht] at e1
                  cases e1
                  exact form_same e2 s6F
                · cases hi
structure spLO (K : PySem.W.Frag) (C : Addr) (vs : List V) (H : Hp) (Q : VK) (E : XK) : Prop where
  ex : ∃ a t r n m rs, vs = [.ref a] ∧ FormAt K C H a t ∧ redC n t = some r ∧ bndC r = true ∧ m ≤ 900 ∧ ((dsc r < 0 ∧ rs = []) ∨ (¬ dsc r < 0 ∧ bndC (stepM r) = true ∧ ringC m r (stepM r) = some rs)) ∧
    ∀ H' f, Same H H' → FormAt K C H' f (minT r rs) → Q (.ref f) H'
theorem ok_lead_of (T : Tx K mg) (C_ring_of : Cal P w K mg base 10 "ring_of" ps_ring_of (spRO K C)) (F : FnP K "lead_of" s_lead_of f fd) : FnOk P w K mg base CX0 11 f fd ps_lead_of (spLO K C) := by
  refine F.ok sc_lead_of (fun vs H Q E h => ?_) (fun cdv A outer s H vs Q E hr h => ?_)
  · obtain ⟨a, t, r, n, m, rs, rfl, _⟩ := h
    rfl
  · obtain ⟨a, t, r, n, m, rs, rfl, hf, hn, hb, hm, hc, k⟩ := h
    refine ⟨_, PSs.nox (pss_one (ps_ret (pe_ix (k_ixl (K := K) rfl) (pe_cal C_ring_of hr (pa_cons (pv 0) pa_nil)) pe_int (fun _ _ => rfl)))), ?_⟩
    fail "sx"
    refine ⟨⟨a, t, r, n, m, rs, rfl, hf, hn, hb, hm, hc, fun H1 q ts s1 _ hF hh _ => ?_⟩⟩
    obtain ⟨fs, h1, h2, h3⟩ := hF
    cases fs with
    | nil =>
      cases ts with
      | nil => cases hh
      | cons t0 ts => cases h2
    | cons f0 fs =>
      cases ts with
      | nil => cases h2
      | cons t0 ts =>
        cases hh
        fail "sx"
        refine ⟨q, _, 0, _, rfl, rfl, SqL.of h1, at0, ?_⟩
        exact k H1 f0 s1 (h3 0 f0 _ rfl rfl)
end
end G41
set_option Elab.async false
set_option linter.all false
set_option maxRecDepth 100000
set_option maxHeartbeats 4000000
namespace G41
open PySem PySem.Spec PyProof.Rows L2
abbrev s_forms_with : Stmt := top 66
abbrev nm_forms_with : List Str := ["whole", "number", "found", "b", "form"]
abbrev ps_forms_with : List Str := ["whole", "number"]
theorem sc_forms_with : FnScope nm_forms_with ps_forms_with (defScope s_forms_with) := ⟨rfl, rfl, rfl, by decide +kernel, rfl, by decide +kernel, by decide +kernel⟩
/-- the form at b, if it is one -/
def fw (D n : Int) (b : Nat) : List T3 :=
  if ((b : Int) * b - D).fmod (4 * n) = 0 ∧ gcd3 (n, (b : Int), ((b : Int) * b - D).fdiv (4 * n)) = 1 ∧ (0 < D ∨ 0 < n) then [(n, (b : Int), ((b : Int) * b - D).fdiv (4 * n))] else []
def formsW (D n : Int) (k : Nat) : List T3 := (List.range k).flatMap (fw D n)
theorem formsW_succ (D n : Int) (k : Nat) : formsW D n (k + 1) = formsW D n k ++ fw D n k := by
  unfold formsW
  rw [List.range_succ, List.flatMap_append]
  simp
theorem fw_len (D n : Int) (b : Nat) : (fw D n b).length ≤ 1 := by
  unfold fw
  split
  · exact Nat.le_refl _
  · exact Nat.zero_le _
theorem formsW_len (D n : Int) : ∀ k, (formsW D n k).length ≤ k
  | 0 => Nat.le_refl _
  | k + 1 => by
    rw [formsW_succ, List.length_append]
    have := formsW_len D n k
    have := fw_len D n k
    omega
/-- Forms one by one -/
def FsAt (K : PySem.W.Frag) (C : Addr) (H : Hp) (fs : List Addr) (ts : List T3) : Prop := fs.length = ts.length ∧ ∀ (i : Nat) f t, fs[i]? = some f → ts[i]? = some t → FormAt K C H f t
theorem fs_same {K : PySem.W.Frag} {C : Addr} {H H' : Hp} {fs : List Addr} {ts : List T3} (h : FsAt K C H fs ts) (e : Same H H') : FsAt K C H' fs ts := ⟨h.1, fun i f t a b => form_same (h.2 i f t a b) e⟩
theorem fs_upd {K : PySem.W.Frag} {C : Addr} {H : Hp} {a : Addr} {fs : List Addr} {ts : List T3} {zs : List V} {o : HO} (ha : H a = some (.lst zs)) (h : FsAt K C H fs ts) : FsAt K C (upd H a o) fs ts := ⟨h.1, fun i f t x y => form_upd ha (h.2 i f t x y)⟩
theorem fs_add {K : PySem.W.Frag} {C : Addr} {H : Hp} {fs : List Addr} {ts : List T3} {f : Addr} {u : T3} (h : FsAt K C H fs ts) (h2 : FormAt K C H f u) : FsAt K C H (fs ++ [f]) (ts ++ [u]) := by
  refine ⟨by rw [List.length_append, List.length_append, h.1]; rfl, fun i q v a b => ?_⟩
  rcases Nat.lt_trichotomy i fs.length with z | z | z
  · rw [List.getElem?_append_left z] at a
    rw [List.getElem?_append_left (by rw [← h.1]; exact z)] at b
    exact h.2 i q v a b
  · subst z
    rw [List.getElem?_append_right (Nat.le_refl _), Nat.sub_self] at a
    rw [List.getElem?_append_right (by rw [h.1]; exact Nat.le_refl _), h.1, Nat.sub_self] at b
    cases a
    cases b
    exact h2
  · rw [List.getElem?_eq_none (by rw [List.length_append]; show fs.length + 1 ≤ i; omega)] at a
    cases a
local macro_rules | `(tactic| fail "rd1") => `(tactic| first
  | refine ⟨_, rfl, ?_⟩
  | refine ⟨_, _, rfl, rfl, ?_⟩
  | refine ⟨rfl, ?_⟩
  | refine ⟨_, _, rfl, ?_⟩
  | refine ⟨_, _, _, rfl, ?_⟩
  | fail)
local macro_rules | `(tactic| fail "rd") => `(tactic| repeat (fail "rd1"))
local macro_rules | `(tactic| fail "nn") => `(tactic| first
  | with_reducible assumption
  | (apply lkn; fail "ne"; fail "nn")
  | (apply none_same; with_reducible assumption; fail "sm"))
local macro_rules | `(tactic| fail "ne") => `(tactic| first
  | with_reducible assumption
  | exact (old_ne (by with_reducible assumption) (by with_reducible assumption)).1
  | exact (old_ne (by with_reducible assumption) (by with_reducible assumption)).2
  | (apply ne_new1; with_reducible assumption; fail "lk")
  | (apply ne_new2; with_reducible assumption; fail "lk"))
local macro_rules | `(tactic| fail "lk") => `(tactic| first
  | with_reducible assumption
  | exact upd_same
  | (apply lkn; fail "ne"; fail "lk")
  | (apply same_upd; with_reducible assumption; fail "lk"))
local macro_rules | `(tactic| fail "sm") => `(tactic| first
  | with_reducible assumption
  | exact Same.refl _
  | (apply same_mut; fail "sm"; fail "nn")
  | (apply trans_same; with_reducible assumption; fail "sm"))
local macro_rules | `(tactic| fail "sl") => `(tactic| first
  | with_reducible assumption
  | (apply lst_same; with_reducible assumption; fail "sm")
  | (apply SqL.of; fail "lk")
  | (apply lst_new; fail "nn"; fail "sl")
  | (apply lst_updn; fail "ne"; fail "sl")
  | (apply lst_trans; with_reducible assumption; fail "sl"))
local macro_rules | `(tactic| fail "st") => `(tactic| first
  | with_reducible assumption
  | (apply tup_same; with_reducible assumption; fail "sm")
  | (apply SqT.of; fail "lk")
  | (apply tup_new; fail "nn"; fail "st")
  | (apply tup_upd; fail "lk"; fail "st")
  | (apply tup_trans; with_reducible assumption; fail "st")
  | (apply tup_updI; fail "lk"; fail "st"))
local macro_rules | `(tactic| fail "nw") => `(tactic| (repeat (refine nwI (fun _ _ => ?_))); refine fun _ => ?_)
local macro_rules | `(tactic| fail "ln") => `(tactic| first
  | exact lenLt (Nat.le_of_ble_eq_true rfl)
  | exact Nat.le_of_ble_eq_true rfl)
local macro_rules | `(tactic| fail "un") => `(tactic| first
  | apply un_lcR
  | (refine un_lc2 2 ?_)
  | (apply un_lcL; fail "sl")
  | (apply un_lcT; fail "st")
  | (apply un_lcZ; fail "sl")
  | (apply un_lcZT; fail "st")
  | (apply un_lcZM; fail "sl"))
local macro_rules | `(tactic| fail "uf") => `(tactic| first
  | apply un_forR
  | (apply un_forL; fail "sl")
  | (apply un_forT; fail "st")
  | (apply un_forZ; fail "sl")
  | (apply un_forZT; fail "st")
  | (apply un_forZM; fail "sl")
  | (apply un_forE; fail "st"))
local macro_rules | `(tactic| fail "ns") => `(tactic| try simp only [wipe, L2.start, List.set_cons_zero, List.set_cons_succ, List.map_cons, List.map_nil, List.length_cons, List.length_nil, List.replicate_succ, List.replicate_zero, List.cons_append, List.nil_append, Nat.reduceAdd, Nat.reduceSub])
local macro_rules | `(tactic| fail "da") => `(tactic| first
  | exact DpAll.nil
  | (apply DpAll.cons; (first | exact Dp.int _ | (apply Dp.tup; fail "st"; fail "da") | (apply Dp.lst; fail "sl"; fail "da") | exact Dp.bl _ | exact Dp.str _); fail "da"))
local macro_rules | `(tactic| fail "dp") => `(tactic| first
  | exact Dp.int _
  | (apply Dp.tup; fail "st"; fail "da")
  | (apply Dp.lst; fail "sl"; fail "da"))
local macro_rules | `(tactic| fail "so") => `(tactic| first
  | (apply sx_upd; fail "so")
  | (apply sx_mut; fail "so"; fail "nn")
  | (apply sx_of; fail "sm"))
local macro_rules | `(tactic| fail "lg") => `(tactic| (refine PyProof.Rows.int_text_len_1921 (lg_small ?_); omega))
local macro_rules | `(tactic| fail "sx1") => `(tactic| (conv => whnf); first
  | (refine fun _ => ?_; fail "nw"; first | fail "un" | skip)
  | (refine fun _ => ?_)
  | (refine wipe_1 (by decide) ?_; fail "ns")
  | (refine wipe_2 (by decide) (by decide) ?_; fail "ns")
  | (refine ⟨_, rfl, ?_⟩)
  | (refine ⟨rfl, ?_⟩)
  | (refine ⟨_, _, rfl, rfl, ?_⟩)
  | (refine ⟨_, _, rfl, ?_⟩)
  | (refine ⟨_, _, _, rfl, ?_⟩)
  | apply un_forR
  | (apply un_forL; fail "sl")
  | (apply un_forT; fail "st")
  | (apply un_forZ; fail "sl")
  | (apply un_forZT; fail "st")
  | (apply un_forZM; fail "sl")
  | (apply un_forE; fail "st")
  | apply un_inR
  | (apply tyI; fail "sl")
  | (apply dpI; fail "dp"; fail "dp"; rfl; rfl)
  | (apply gtI; fail "st"; rfl)
  | apply isi_ii
  | apply isi_ib
  | (apply isi_tt; fail "st")
  | refine divN1 ?_
  | (apply nx_range; exact Nat.le_of_ble_eq_true rfl)
  | (apply nx_list; fail "sl"; rfl)
  | (apply nx_tup; fail "st"; rfl)
  | (apply nx_zip; fail "sl"; fail "sl"; rfl; rfl)
  | (apply nx_zipT; fail "st"; fail "st"; rfl; rfl)
  | (apply nx_zipM; fail "sl"; fail "st"; rfl; rfl)
  | (apply nx_enumT; fail "st"; rfl)
  | (apply st_range; fail "ln")
  | (apply st_list; fail "sl"; fail "ln")
  | (apply st_tup; fail "st"; fail "ln")
  | (apply st_zip; fail "sl"; fail "sl"; fail "ln")
  | (apply st_zipT; fail "st"; fail "st"; fail "ln")
  | (apply st_zipM; fail "sl"; fail "st"; rfl; rfl)
  | (apply st_enumT; fail "st"; rfl)
  | (apply mulR; with_reducible assumption)
  | (apply mulL; with_reducible assumption)
  | (apply accI; fail "lk"; fail "ln")
  | (apply apdI; fail "lk"; fail "ln")
  | (apply ixLI; fail "sl"; rfl)
  | (apply ixTI; fail "st"; rfl)
  | (apply setI; fail "lk"; rfl)
  | (apply slLI; fail "sl")
  | (apply sum2I; fail "sl")
  | (apply rep2I; fail "lk"; exact Nat.le_of_ble_eq_true rfl)
  | (refine And.intro (lg_small ?_) ?_; omega)
  | (apply joinI3; fail "sl"; fail "lg"; fail "lg"; fail "lg"; decide)
  | (apply enI; fail "st")
  | (apply enL; fail "sl")
  | (apply ppL; fail "sl")
  | (apply ppT; fail "st")
  | (apply pqL; fail "sl")
  | (apply pqT; fail "st")
  | (apply pzL; fail "sl"; fail "sl")
  | (apply pzT; fail "st"; fail "st")
  | (apply pzM; fail "sl"; fail "st")
  | (refine Or.inl ⟨_, rfl, ?_⟩)
  | (refine Or.inr ⟨_, rfl, ?_⟩)
  | (apply pxL; fail "sl")
  | (apply pxT; fail "st")
  | (refine iteTI rfl ?_)
  | (refine iteFI Bool.false_ne_true ?_)
  | (refine iteTI ?_ ?_; (simp [*]; done))
  | (refine iteFI ?_ ?_; (simp [*]; done))
  | (refine And.intro ?_ ?_; first | decide | (simp only [List.length_append, List.length_cons, List.length_nil]; decide)))
local macro_rules | `(tactic| fail "sx") => `(tactic| repeat (fail "sx1"))
local macro_rules | `(tactic| fail "tx1") => `(tactic| (conv => whnf); first
  | (refine fun _ => ?_; fail "nw")
  | (refine fun _ => ?_)
  | (refine wipe_1 (by decide) ?_; fail "ns")
  | (refine wipe_2 (by decide) (by decide) ?_; fail "ns")
  | (refine ⟨_, rfl, ?_⟩)
  | (refine ⟨rfl, ?_⟩)
  | (refine ⟨_, _, rfl, rfl, ?_⟩)
  | (refine ⟨_, _, rfl, ?_⟩)
  | (refine ⟨_, _, _, rfl, ?_⟩)
  | apply un_forR
  | (apply un_forL; fail "sl")
  | (apply un_forT; fail "st")
  | (apply un_forZ; fail "sl")
  | (apply un_forZT; fail "st")
  | (apply un_forZM; fail "sl")
  | (apply un_forE; fail "st")
  | apply un_inR
  | (apply tyI; fail "sl")
  | (apply dpI; fail "dp"; fail "dp"; rfl; rfl)
  | (apply gtI; fail "st"; rfl)
  | apply isi_ii
  | apply isi_ib
  | (apply isi_tt; fail "st")
  | refine divN1 ?_
  | (apply nx_range; exact Nat.le_of_ble_eq_true rfl)
  | (apply nx_list; fail "sl"; rfl)
  | (apply nx_tup; fail "st"; rfl)
  | (apply nx_zip; fail "sl"; fail "sl"; rfl; rfl)
  | (apply nx_zipT; fail "st"; fail "st"; rfl; rfl)
  | (apply nx_zipM; fail "sl"; fail "st"; rfl; rfl)
  | (apply nx_enumT; fail "st"; rfl)
  | (apply st_range; fail "ln")
  | (apply st_list; fail "sl"; fail "ln")
  | (apply st_tup; fail "st"; fail "ln")
  | (apply st_zip; fail "sl"; fail "sl"; fail "ln")
  | (apply st_zipT; fail "st"; fail "st"; fail "ln")
  | (apply st_zipM; fail "sl"; fail "st"; rfl; rfl)
  | (apply st_enumT; fail "st"; rfl)
  | (apply mulR; with_reducible assumption)
  | (apply mulL; with_reducible assumption)
  | (apply accI; fail "lk"; fail "ln")
  | (apply apdI; fail "lk"; fail "ln")
  | (apply ixLI; fail "sl"; rfl)
  | (apply ixTI; fail "st"; rfl)
  | (apply setI; fail "lk"; rfl)
  | (apply slLI; fail "sl")
  | (apply sum2I; fail "sl")
  | (apply rep2I; fail "lk"; exact Nat.le_of_ble_eq_true rfl)
  | (refine And.intro (lg_small ?_) ?_; omega)
  | (apply joinI3; fail "sl"; fail "lg"; fail "lg"; fail "lg"; decide)
  | (apply enI; fail "st")
  | (apply enL; fail "sl")
  | (apply ppL; fail "sl")
  | (apply ppT; fail "st")
  | (apply pqL; fail "sl")
  | (apply pqT; fail "st")
  | (apply pzL; fail "sl"; fail "sl")
  | (apply pzT; fail "st"; fail "st")
  | (apply pzM; fail "sl"; fail "st")
  | (refine Or.inl ⟨_, rfl, ?_⟩)
  | (refine Or.inr ⟨_, rfl, ?_⟩)
  | (apply pxL; fail "sl")
  | (apply pxT; fail "st")
  | (refine iteTI rfl ?_)
  | (refine iteFI Bool.false_ne_true ?_)
  | (refine iteTI ?_ ?_; (simp [*]; done))
  | (refine iteFI ?_ ?_; (simp [*]; done))
  | (refine And.intro ?_ ?_; first | decide | (simp only [List.length_append, List.length_cons, List.length_nil]; decide)))
local macro_rules | `(tactic| fail "tx") => `(tactic| repeat (fail "tx1"))
local macro_rules | `(tactic| fail "om") => `(tactic| first
  | omega
  | (dsimp only; omega)
  | (split <;> omega)
  | (dsimp only; split <;> omega))
local macro_rules | `(tactic| fail "bx1") => `(tactic| first
  | (refine iteD (fun _ => ?_) (fun _ => ?_))
  | (refine iteN (fun _ => ?_) (fun _ => ?_))
  | (refine iteE (fun _ => ?_) (fun _ => ?_))
  | (refine iteTI rfl ?_)
  | (refine iteFI Bool.false_ne_true ?_)
  | (refine ⟨_, rfl, ?_⟩)
  | (refine ⟨_, _, rfl, rfl, ?_⟩)
  | (refine ⟨rfl, ?_⟩)
  | (refine ⟨_, _, rfl, ?_⟩)
  | (apply mulR; with_reducible assumption)
  | (apply mulL; with_reducible assumption)
  | (apply mulL; refine ⟨?_, ?_⟩ <;> fail "om")
  | (apply powI; fail "om"))
local macro_rules | `(tactic| fail "bx") => `(tactic| repeat' (fail "bx1"))

section
variable {P : Program} {w : World} {K : PySem.W.Frag} {mg : Str → Option Value} {base : Heap} {f : Addr} {fd : FuncData} {C : Addr}
structure spFW (K : PySem.W.Frag) (C : Addr) (vs : List V) (H : Hp) (Q : VK) (E : XK) : Prop where
  ex : ∃ D n, vs = [.int D, .int n] ∧ n ≠ 0 ∧ n.natAbs ≤ 60 ∧ D ≠ 0 ∧ D.natAbs ≤ 1000 ∧ ∀ H' q fs, Same H H' → H q = none → H' q = some (.lst (fs.map V.ref)) → FsAt K C H' fs (formsW D n (2 * n.natAbs)) → Q (.ref q) H'
theorem ok_forms_with (T : Tx K mg) (CF : MkF P w K mg base C) (CP_content : PrpF P w K mg base C "content" 3 ps_Form_content (spCont K C)) (F : FnP K "forms_with" s_forms_with f fd) : FnOk P w K mg base CX0 8 f fd ps_forms_with (spFW K C) := by
  refine F.ok sc_forms_with (fun vs H Q E h => ?_) (fun cdv A outer s H vs Q E hr h => ?_)
  · obtain ⟨D, n, rfl, _⟩ := h
    rfl
  · obtain ⟨D, n, rfl, n0, n1, D0, D1, k⟩ := h
    refine ⟨_, PSs.nox (pss_cons (ps_set (i := 2) sc_forms_with.nd rfl (Or.inl rfl) (pe_lst pa_nil))
    (pss_cons (ps_for PassesOwn.never rfl (pi_range1 (by rfl) T.b_range (pa_cons (pe_op op_mul pe_int (pe_callB call_abs (by rfl) T.b_abs (by decide +kernel) (pa_cons (pv 1) pa_nil))) pa_nil)) (pg_name (i := 3) sc_forms_with.nd rfl (by first | exact Or.inl rfl | exact Or.inr rfl))
    (pss_one (ps_if (pt_cmpR op_eq (pe_op op_modN (pe_op op_sub (pe_op op_mul (pv 3) (pv 3)) (pv 0)) (pe_op op_mul pe_int (pv 1))) pe_int (nomark _))
    (pss_cons (ps_set (i := 4) sc_forms_with.nd rfl (Or.inl rfl) (pe_form CF hr (pa_cons (pe_tup (pa_cons (pv 1) (pa_cons (pv 3) (pa_cons (pe_op op_fdivN (pe_op op_sub (pe_op op_mul (pv 3) (pv 3)) (pv 0)) (pe_op op_mul pe_int (pv 1))) pa_nil)))) pa_nil)))
    (pss_one (ps_if (PW.pt (pw_and (pt_cmpR op_eq (pe_prp CP_content hr (pv 4)) pe_int (nomark _)) (pw_and1 (PW.pt (pw_or (pt_cmpR op_gt (pv 0) pe_int (nomark _)) (pw_or1 (pt_cmpR op_gt (pv 1) pe_int (nomark _))))))))
    (pss_one (ps_expr (pe_bm PySem.F.plainAttrs_list PySem.F.slot_list_append PySem.F.type_list_append mt_append (pv 2) (pa_cons (pv 4) pa_nil))))
    pss_nil)))
    pss_nil)))
    (pss_one (ps_ret (pv 2))))), ?_⟩
    refine ⟨by decide, fun q hq => ?_⟩
    have m2 : Sm 2 := ⟨by decide, by decide⟩
    have m4 : Sm 4 := ⟨by decide, by decide⟩
    have ea : (if n < 0 then -n else n) = ((n.natAbs : Nat) : Int) := by split <;> omega
    fail "rd"
    rw [ea]
    refine ⟨Or.inl m2, ?_⟩
    fail "rd"
    refine ⟨by omega, by omega, ?_⟩
    rw [show (2 * ((n.natAbs : Nat) : Int)).toNat = 2 * n.natAbs by omega]
    refine for_range (lo := 0) (n := 2 * n.natAbs) (fun i σ H' => ∃ fs o1 o2, σ = [some (.int D), some (.int n), some (.ref q), o1, o2] ∧ Same H H' ∧ H' q = some (.lst (fs.map V.ref)) ∧ FsAt K C H' fs (formsW D n i))
      ⟨[], none, none, rfl, same_new hq, upd_same, ⟨rfl, fun i f t a => by cases a⟩⟩ (fun i σ H' hi hI => ?_) (fun σ H' hI => ?_)
    · obtain ⟨fs, o1, o2, rfl, hs, hq', hF⟩ := hI
      have mi : Sm (i : Int) := ⟨by omega, by omega⟩
      have mn : Sm n := ⟨by omega, by omega⟩
      have ii : (i : Int) * i ≤ 14400 := by
        have := Int.mul_le_mul (show (i : Int) ≤ 120 by omega) (show (i : Int) ≤ 120 by omega) (by omega) (by omega)
        omega
      have i0 : 0 ≤ (i : Int) * i := Int.mul_nonneg (by omega) (by omega)
      have hdiv := Int.mul_fdiv_add_fmod ((i : Int) * i - D) (4 * n)
      have hcb := Int.natAbs_fdiv_le_natAbs ((i : Int) * i - D) (4 * n)
      have hfl : fs.length ≤ 120 := by rw [hF.1]; have := formsW_len D n i; omega
      rw [show (0 : Int) + (i : Int) = (i : Int) by omega]
      fail "sx"
      refine ⟨by omega, ?_⟩
      fail "sx"
      refine iteE (fun h1 => ?_) (fun h1 => ?_)
      · have hok : OkT (n, (i : Int), ((i : Int) * i - D).fdiv (4 * n)) := ⟨n0, by show n.natAbs ≤ 100000; omega, by show ((i : Int)).natAbs ≤ 100000; omega, by show (((i : Int) * i - D).fdiv (4 * n)).natAbs ≤ 100000; omega, by show 4 * n * ((i : Int) * i - D).fdiv (4 * n) ≠ (i : Int) * i; omega⟩
        fail "sx"
        refine ⟨⟨by omega, by omega⟩, ?_⟩
        fail "sx"
        rename_i T0 t0
        refine ⟨_, _, rfl, upd_same, hok, fun H5 f5 s5 hn5 hF5 => ?_⟩
        fail "sx"
        refine prCont hF5 fun H6 s6 => ?_
        have sA : Same H' H6 := (same_new t0).trans (s5.trans s6)
        have hF6 : FormAt K C H6 f5 (n, (i : Int), ((i : Int) * i - D).fdiv (4 * n)) := form_same hF5 s6
        have hq6 : H6 q = some (.lst (fs.map V.ref)) := sA _ _ hq'
        have fin : gcd3 (n, (i : Int), ((i : Int) * i - D).fdiv (4 * n)) = 1 → (0 < D ∨ 0 < n) → ∃ fs' o1 o2, [some (V.int D), some (V.int n), some (V.ref q), some (V.int (i : Int)), some (V.ref f5)] = [some (.int D), some (.int n), some (.ref q), o1, o2] ∧ Same H (upd H6 q (.lst (fs.map V.ref ++ [.ref f5]))) ∧
            upd H6 q (.lst (fs.map V.ref ++ [.ref f5])) q = some (.lst (fs'.map V.ref)) ∧ FsAt K C (upd H6 q (.lst (fs.map V.ref ++ [.ref f5]))) fs' (formsW D n (i + 1)) := fun h2 h3 => by
          have e : fw D n i = [(n, (i : Int), ((i : Int) * i - D).fdiv (4 * n))] := by unfold fw; rw [if_pos ⟨h1, h2, h3⟩]
          refine ⟨fs ++ [f5], _, _, rfl, same_mut (hs.trans sA) hq, by rw [upd_same, List.map_append]; rfl, ?_⟩
          rw [formsW_succ, e]
          exact fs_add (fs_upd hq6 (fs_same hF sA)) (form_upd hq6 hF6)
        have non : ¬ (gcd3 (n, (i : Int), ((i : Int) * i - D).fdiv (4 * n)) = 1 ∧ (0 < D ∨ 0 < n)) → ∃ fs' o1 o2, [some (V.int D), some (V.int n), some (V.ref q), some (V.int (i : Int)), some (V.ref f5)] = [some (.int D), some (.int n), some (.ref q), o1, o2] ∧ Same H H6 ∧ H6 q = some (.lst (fs'.map V.ref)) ∧ FsAt K C H6 fs' (formsW D n (i + 1)) := fun h2 => by
          have e : fw D n i = [] := by unfold fw; rw [if_neg (fun h => h2 h.2)]
          refine ⟨fs, _, _, rfl, hs.trans sA, hq6, ?_⟩
          rw [formsW_succ, e, List.append_nil]
          exact fs_same hF sA
        fail "sx"
        refine iteE (fun h2 => ?_) (fun h2 => ?_)
        · have h2' : gcd3 (n, (i : Int), ((i : Int) * i - D).fdiv (4 * n)) = 1 := by omega
          fail "rd"
          refine iteD (fun h3 => ?_) (fun h3 => ?_)
          · fail "rd"
            refine ⟨.inl ⟨rfl, _, SqL.of hq6⟩, ?_⟩
            fail "rd"
            refine ⟨_, _, _, rfl, rfl, hq6, by rw [List.length_map]; exact Nat.lt_of_le_of_lt hfl (by decide), ?_⟩
            exact fin h2' (.inl h3)
          · fail "rd"
            refine iteD (fun h4 => ?_) (fun h4 => ?_)
            · fail "rd"
              refine ⟨.inl ⟨rfl, _, SqL.of hq6⟩, ?_⟩
              fail "rd"
              refine ⟨_, _, _, rfl, rfl, hq6, by rw [List.length_map]; exact Nat.lt_of_le_of_lt hfl (by decide), ?_⟩
              exact fin h2' (.inr h4)
            · exact non (fun h => h.2.elim h3 h4)
        · exact non (fun h => h2 (by rw [h.1]; rfl))
      · fail "rd"
        have e : fw D n i = [] := by unfold fw; rw [if_neg (fun h => h1 h.1)]
        refine ⟨fs, _, _, rfl, hs, hq', ?_⟩
        rw [formsW_succ, e, List.append_nil]
        exact hF
    · obtain ⟨fs, o1, o2, rfl, hs, hq', hF⟩ := hI
      fail "rd"
      exact k H' q fs hs hq hq' hF
end
end G41
set_option Elab.async false
set_option linter.all false
set_option maxRecDepth 100000
set_option maxHeartbeats 4000000
namespace G41
open PySem PySem.Spec PyProof.Rows L2
abbrev s_law_one_of : Stmt := top 83
abbrev nm_law_one_of : List Str := ["_law_jar_here", "_law_some"]
abbrev ps_law_one_of : List Str := ["_law_jar_here", "_law_some"]
theorem sc_law_one_of : FnScope nm_law_one_of ps_law_one_of (defScope s_law_one_of) := ⟨rfl, rfl, rfl, by decide +kernel, rfl, by decide +kernel, by decide +kernel⟩
local macro_rules | `(tactic| fail "rd1") => `(tactic| first
  | refine ⟨_, rfl, ?_⟩
  | refine ⟨_, _, rfl, rfl, ?_⟩
  | refine ⟨rfl, ?_⟩
  | refine ⟨_, _, rfl, ?_⟩
  | refine ⟨_, _, _, rfl, ?_⟩
  | fail)
local macro_rules | `(tactic| fail "rd") => `(tactic| repeat (fail "rd1"))
local macro_rules | `(tactic| fail "nn") => `(tactic| first
  | with_reducible assumption
  | (apply lkn; fail "ne"; fail "nn")
  | (apply none_same; with_reducible assumption; fail "sm"))
local macro_rules | `(tactic| fail "ne") => `(tactic| first
  | with_reducible assumption
  | exact (old_ne (by with_reducible assumption) (by with_reducible assumption)).1
  | exact (old_ne (by with_reducible assumption) (by with_reducible assumption)).2
  | (apply ne_new1; with_reducible assumption; fail "lk")
  | (apply ne_new2; with_reducible assumption; fail "lk"))
local macro_rules | `(tactic| fail "lk") => `(tactic| first
  | with_reducible assumption
  | exact upd_same
  | (apply lkn; fail "ne"; fail "lk")
  | (apply same_upd; with_reducible assumption; fail "lk"))
local macro_rules | `(tactic| fail "sm") => `(tactic| first
  | with_reducible assumption
  | exact Same.refl _
  | (apply same_mut; fail "sm"; fail "nn")
  | (apply trans_same; with_reducible assumption; fail "sm"))
local macro_rules | `(tactic| fail "sl") => `(tactic| first
  | with_reducible assumption
  | (apply lst_same; with_reducible assumption; fail "sm")
  | (apply SqL.of; fail "lk")
  | (apply lst_new; fail "nn"; fail "sl")
  | (apply lst_updn; fail "ne"; fail "sl")
  | (apply lst_trans; with_reducible assumption; fail "sl"))
local macro_rules | `(tactic| fail "st") => `(tactic| first
  | with_reducible assumption
  | (apply tup_same; with_reducible assumption; fail "sm")
  | (apply SqT.of; fail "lk")
  | (apply tup_new; fail "nn"; fail "st")
  | (apply tup_upd; fail "lk"; fail "st")
  | (apply tup_trans; with_reducible assumption; fail "st")
  | (apply tup_updI; fail "lk"; fail "st"))
local macro_rules | `(tactic| fail "nw") => `(tactic| (repeat (refine nwI (fun _ _ => ?_))); refine fun _ => ?_)
local macro_rules | `(tactic| fail "ln") => `(tactic| first
  | exact lenLt (Nat.le_of_ble_eq_true rfl)
  | exact Nat.le_of_ble_eq_true rfl)
local macro_rules | `(tactic| fail "un") => `(tactic| first
  | apply un_lcR
  | (refine un_lc2 2 ?_)
  | (apply un_lcL; fail "sl")
  | (apply un_lcT; fail "st")
  | (apply un_lcZ; fail "sl")
  | (apply un_lcZT; fail "st")
  | (apply un_lcZM; fail "sl"))
local macro_rules | `(tactic| fail "uf") => `(tactic| first
  | apply un_forR
  | (apply un_forL; fail "sl")
  | (apply un_forT; fail "st")
  | (apply un_forZ; fail "sl")
  | (apply un_forZT; fail "st")
  | (apply un_forZM; fail "sl")
  | (apply un_forE; fail "st"))
local macro_rules | `(tactic| fail "ns") => `(tactic| try simp only [wipe, L2.start, List.set_cons_zero, List.set_cons_succ, List.map_cons, List.map_nil, List.length_cons, List.length_nil, List.replicate_succ, List.replicate_zero, List.cons_append, List.nil_append, Nat.reduceAdd, Nat.reduceSub])
local macro_rules | `(tactic| fail "da") => `(tactic| first
  | exact DpAll.nil
  | (apply DpAll.cons; (first | exact Dp.int _ | (apply Dp.tup; fail "st"; fail "da") | (apply Dp.lst; fail "sl"; fail "da") | exact Dp.bl _ | exact Dp.str _); fail "da"))
local macro_rules | `(tactic| fail "dp") => `(tactic| first
  | exact Dp.int _
  | (apply Dp.tup; fail "st"; fail "da")
  | (apply Dp.lst; fail "sl"; fail "da"))
local macro_rules | `(tactic| fail "so") => `(tactic| first
  | (apply sx_upd; fail "so")
  | (apply sx_mut; fail "so"; fail "nn")
  | (apply sx_of; fail "sm"))
local macro_rules | `(tactic| fail "lg") => `(tactic| (refine PyProof.Rows.int_text_len_1921 (lg_small ?_); omega))
local macro_rules | `(tactic| fail "sx1") => `(tactic| (conv => whnf); first
  | (refine fun _ => ?_; fail "nw"; first | fail "un" | skip)
  | (refine fun _ => ?_)
  | (refine wipe_1 (by decide) ?_; fail "ns")
  | (refine wipe_2 (by decide) (by decide) ?_; fail "ns")
  | (refine ⟨_, rfl, ?_⟩)
  | (refine ⟨rfl, ?_⟩)
  | (refine ⟨_, _, rfl, rfl, ?_⟩)
  | (refine ⟨_, _, rfl, ?_⟩)
  | (refine ⟨_, _, _, rfl, ?_⟩)
  | apply un_forR
  | (apply un_forL; fail "sl")
  | (apply un_forT; fail "st")
  | (apply un_forZ; fail "sl")
  | (apply un_forZT; fail "st")
  | (apply un_forZM; fail "sl")
  | (apply un_forE; fail "st")
  | apply un_inR
  | (apply tyI; fail "sl")
  | (apply dpI; fail "dp"; fail "dp"; rfl; rfl)
  | (apply gtI; fail "st"; rfl)
  | apply isi_ii
  | apply isi_ib
  | (apply isi_tt; fail "st")
  | refine divN1 ?_
  | (apply nx_range; exact Nat.le_of_ble_eq_true rfl)
  | (apply nx_list; fail "sl"; rfl)
  | (apply nx_tup; fail "st"; rfl)
  | (apply nx_zip; fail "sl"; fail "sl"; rfl; rfl)
  | (apply nx_zipT; fail "st"; fail "st"; rfl; rfl)
  | (apply nx_zipM; fail "sl"; fail "st"; rfl; rfl)
  | (apply nx_enumT; fail "st"; rfl)
  | (apply st_range; fail "ln")
  | (apply st_list; fail "sl"; fail "ln")
  | (apply st_tup; fail "st"; fail "ln")
  | (apply st_zip; fail "sl"; fail "sl"; fail "ln")
  | (apply st_zipT; fail "st"; fail "st"; fail "ln")
  | (apply st_zipM; fail "sl"; fail "st"; rfl; rfl)
  | (apply st_enumT; fail "st"; rfl)
  | (apply mulR; with_reducible assumption)
  | (apply mulL; with_reducible assumption)
  | (apply accI; fail "lk"; fail "ln")
  | (apply apdI; fail "lk"; fail "ln")
  | (apply ixLI; fail "sl"; rfl)
  | (apply ixTI; fail "st"; rfl)
  | (apply setI; fail "lk"; rfl)
  | (apply slLI; fail "sl")
  | (apply sum2I; fail "sl")
  | (apply rep2I; fail "lk"; exact Nat.le_of_ble_eq_true rfl)
  | (refine And.intro (lg_small ?_) ?_; omega)
  | (apply joinI3; fail "sl"; fail "lg"; fail "lg"; fail "lg"; decide)
  | (apply enI; fail "st")
  | (apply enL; fail "sl")
  | (apply ppL; fail "sl")
  | (apply ppT; fail "st")
  | (apply pqL; fail "sl")
  | (apply pqT; fail "st")
  | (apply pzL; fail "sl"; fail "sl")
  | (apply pzT; fail "st"; fail "st")
  | (apply pzM; fail "sl"; fail "st")
  | (refine Or.inl ⟨_, rfl, ?_⟩)
  | (refine Or.inr ⟨_, rfl, ?_⟩)
  | (apply pxL; fail "sl")
  | (apply pxT; fail "st")
  | (refine iteTI rfl ?_)
  | (refine iteFI Bool.false_ne_true ?_)
  | (refine iteTI ?_ ?_; (simp [*]; done))
  | (refine iteFI ?_ ?_; (simp [*]; done))
  | (refine And.intro ?_ ?_; first | decide | (simp only [List.length_append, List.length_cons, List.length_nil]; decide)))
local macro_rules | `(tactic| fail "sx") => `(tactic| repeat (fail "sx1"))
local macro_rules | `(tactic| fail "tx1") => `(tactic| (conv => whnf); first
  | (refine fun _ => ?_; fail "nw")
  | (refine fun _ => ?_)
  | (refine wipe_1 (by decide) ?_; fail "ns")
  | (refine wipe_2 (by decide) (by decide) ?_; fail "ns")
  | (refine ⟨_, rfl, ?_⟩)
  | (refine ⟨rfl, ?_⟩)
  | (refine ⟨_, _, rfl, rfl, ?_⟩)
  | (refine ⟨_, _, rfl, ?_⟩)
  | (refine ⟨_, _, _, rfl, ?_⟩)
  | apply un_forR
  | (apply un_forL; fail "sl")
  | (apply un_forT; fail "st")
  | (apply un_forZ; fail "sl")
  | (apply un_forZT; fail "st")
  | (apply un_forZM; fail "sl")
  | (apply un_forE; fail "st")
  | apply un_inR
  | (apply tyI; fail "sl")
  | (apply dpI; fail "dp"; fail "dp"; rfl; rfl)
  | (apply gtI; fail "st"; rfl)
  | apply isi_ii
  | apply isi_ib
  | (apply isi_tt; fail "st")
  | refine divN1 ?_
  | (apply nx_range; exact Nat.le_of_ble_eq_true rfl)
  | (apply nx_list; fail "sl"; rfl)
  | (apply nx_tup; fail "st"; rfl)
  | (apply nx_zip; fail "sl"; fail "sl"; rfl; rfl)
  | (apply nx_zipT; fail "st"; fail "st"; rfl; rfl)
  | (apply nx_zipM; fail "sl"; fail "st"; rfl; rfl)
  | (apply nx_enumT; fail "st"; rfl)
  | (apply st_range; fail "ln")
  | (apply st_list; fail "sl"; fail "ln")
  | (apply st_tup; fail "st"; fail "ln")
  | (apply st_zip; fail "sl"; fail "sl"; fail "ln")
  | (apply st_zipT; fail "st"; fail "st"; fail "ln")
  | (apply st_zipM; fail "sl"; fail "st"; rfl; rfl)
  | (apply st_enumT; fail "st"; rfl)
  | (apply mulR; with_reducible assumption)
  | (apply mulL; with_reducible assumption)
  | (apply accI; fail "lk"; fail "ln")
  | (apply apdI; fail "lk"; fail "ln")
  | (apply ixLI; fail "sl"; rfl)
  | (apply ixTI; fail "st"; rfl)
  | (apply setI; fail "lk"; rfl)
  | (apply slLI; fail "sl")
  | (apply sum2I; fail "sl")
  | (apply rep2I; fail "lk"; exact Nat.le_of_ble_eq_true rfl)
  | (refine And.intro (lg_small ?_) ?_; omega)
  | (apply joinI3; fail "sl"; fail "lg"; fail "lg"; fail "lg"; decide)
  | (apply enI; fail "st")
  | (apply enL; fail "sl")
  | (apply ppL; fail "sl")
  | (apply ppT; fail "st")
  | (apply pqL; fail "sl")
  | (apply pqT; fail "st")
  | (apply pzL; fail "sl"; fail "sl")
  | (apply pzT; fail "st"; fail "st")
  | (apply pzM; fail "sl"; fail "st")
  | (refine Or.inl ⟨_, rfl, ?_⟩)
  | (refine Or.inr ⟨_, rfl, ?_⟩)
  | (apply pxL; fail "sl")
  | (apply pxT; fail "st")
  | (refine iteTI rfl ?_)
  | (refine iteFI Bool.false_ne_true ?_)
  | (refine iteTI ?_ ?_; (simp [*]; done))
  | (refine iteFI ?_ ?_; (simp [*]; done))
  | (refine And.intro ?_ ?_; first | decide | (simp only [List.length_append, List.length_cons, List.length_nil]; decide)))
local macro_rules | `(tactic| fail "tx") => `(tactic| repeat (fail "tx1"))
local macro_rules | `(tactic| fail "om") => `(tactic| first
  | omega
  | (dsimp only; omega)
  | (split <;> omega)
  | (dsimp only; split <;> omega))
local macro_rules | `(tactic| fail "bx1") => `(tactic| first
  | (refine iteD (fun _ => ?_) (fun _ => ?_))
  | (refine iteN (fun _ => ?_) (fun _ => ?_))
  | (refine iteE (fun _ => ?_) (fun _ => ?_))
  | (refine iteTI rfl ?_)
  | (refine iteFI Bool.false_ne_true ?_)
  | (refine ⟨_, rfl, ?_⟩)
  | (refine ⟨_, _, rfl, rfl, ?_⟩)
  | (refine ⟨rfl, ?_⟩)
  | (refine ⟨_, _, rfl, ?_⟩)
  | (apply mulR; with_reducible assumption)
  | (apply mulL; with_reducible assumption)
  | (apply mulL; refine ⟨?_, ?_⟩ <;> fail "om")
  | (apply powI; fail "om"))
local macro_rules | `(tactic| fail "bx") => `(tactic| repeat' (fail "bx1"))

section
variable {P : Program} {w : World} {K : PySem.W.Frag} {mg : Str → Option Value} {base : Heap} {f : Addr} {fd : FuncData} {C : Addr}
structure spOne (vs : List V) (H : Hp) (Q : VK) (E : XK) : Prop where
  ex : ∃ p q, vs = [.ref p, .ref q] ∧ Jar H p ∧ q ≠ p ∧ H q = some (.lst [.int 1, .int (-1)]) ∧ ∀ H' v, (∀ b u, b ≠ p → H b = some u → H' b = some u) → Jar H' p → v = 1 ∨ v = -1 → Q (.int v) H'
theorem ok_law_one_of (T : Tx K mg) (C_law_dip : Cal P w K mg base 1 "_law_dip" ps_law_dip spDip) (F : FnP K "_law_one_of" s_law_one_of f fd) : FnOk P w K mg base CX0 2 f fd ps_law_one_of spOne := by
  refine F.ok sc_law_one_of (fun vs H Q E h => ?_) (fun cdv A outer s H vs Q E hr h => ?_)
  · obtain ⟨p, q, rfl, _⟩ := h
    rfl
  · obtain ⟨p, q, rfl, hj, hqp, hq, k⟩ := h
    refine ⟨_, PSs.nox (pss_one (ps_ret (pe_ix (k_ixl (K := K) rfl) (pv 1) (pe_cal C_law_dip hr (pa_cons (pv 0) (pa_cons (pe_callB (k_len (K := K) rfl) (by rfl) T.b_len (by decide +kernel) (pa_cons (pv 1) pa_nil)) pa_nil))) (fun _ _ => rfl)))), ?_⟩
    fail "sx"
    refine ⟨hj, by decide, by decide, fun H1 r e1 hj1 r0 r1 => ?_⟩
    have r1 : r < 2 := r1
    have hq1 := e1 q _ hqp hq
    have hr2 : r = 0 ∨ r = 1 := by omega
    rcases hr2 with rfl | rfl
    · refine ⟨q, _, 0, .int 1, rfl, rfl, SqL.of hq1, rfl, ?_⟩
      exact k H1 1 e1 hj1 (.inl rfl)
    · refine ⟨q, _, 1, .int (-1), rfl, rfl, SqL.of hq1, rfl, ?_⟩
      exact k H1 (-1) e1 hj1 (.inr rfl)
end
end G41
set_option Elab.async false
set_option linter.all false
set_option maxRecDepth 100000
set_option maxHeartbeats 4000000
namespace G41
open PySem PySem.Spec PyProof.Rows L2
/-! dicts whose keys are triples; strictly sorted lists -/
abbrev k3 (t : T3) : List L2.Key := [Sum.inl t.1, Sum.inl t.2.1, Sum.inl t.2.2]
theorem k3_inj {t u : T3} (h : k3 t = k3 u) : t = u := by
  obtain ⟨a, b, c⟩ := t
  obtain ⟨a', b', c'⟩ := u
  simp only [k3, List.cons.injEq, Sum.inl.injEq, and_true] at h
  obtain ⟨h1, h2, h3⟩ := h
  rw [h1, h2, h3]
theorem k3_kV (t : T3) : (k3 t).map kV = tv t := rfl
def putT (ts : List T3) (t : T3) : List T3 := if t ∈ ts then ts else ts ++ [t]
theorem keys_put {kvs : List (List L2.Key × V)} {ts : List T3} (t : T3) (v : V) (h : kvs.map (·.1) = ts.map k3) : (putK kvs (k3 t) v).map (·.1) = (putT ts t).map k3 := by
  have e : (kvs.any fun kv => decide (kv.1 = k3 t)) = decide (t ∈ ts) := by
    rw [Bool.eq_iff_iff, List.any_eq_true, decide_eq_true_iff]
    constructor
    · rintro ⟨kv, h1, h2⟩
      have h3 : kv.1 ∈ ts.map k3 := by rw [← h]; exact List.mem_map_of_mem h1
      obtain ⟨u, h4, h5⟩ := List.mem_map.mp h3
      have h6 := of_decide_eq_true h2
      rw [← h5] at h6
      rw [← k3_inj h6]; exact h4
    · intro h1
      have h3 : k3 t ∈ kvs.map (·.1) := by rw [h]; exact List.mem_map_of_mem h1
      obtain ⟨kv, h4, h5⟩ := List.mem_map.mp h3
      exact ⟨kv, h4, decide_eq_true h5⟩
  unfold putK putT
  rw [e]
  by_cases hm : t ∈ ts
  · rw [if_pos (decide_eq_true hm), if_pos hm, ← h, List.map_map]
    apply List.map_congr_left
    intro kv _
    show (if kv.1 = k3 t then _ else _ : List L2.Key × V).1 = kv.1
    split
    · rename_i h1; first | rfl | exact h1.symm
    · rfl
  · rw [if_neg (by simp [hm]), if_neg hm, List.map_append, List.map_append, h]
    rfl
theorem mem_putT {ts : List T3} {t x : T3} : x ∈ putT ts t ↔ x ∈ ts ∨ x = t := by
  unfold putT
  split
  · rename_i h
    exact ⟨.inl, fun q => q.elim id fun e => e ▸ h⟩
  · simp
theorem nodup_putT {ts : List T3} {t : T3} (h : ts.Nodup) : (putT ts t).Nodup := by
  unfold putT
  split
  · exact h
  · rename_i n
    rw [List.nodup_append]
    refine ⟨h, by simp, fun a ha b hb e => ?_⟩
    simp at hb
    exact n (by rw [← hb, ← e]; exact ha)
theorem len_putT (ts : List T3) (t : T3) : (putT ts t).length ≤ ts.length + 1 := by
  unfold putT
  split
  · omega
  · simp
/-- strictly sorted -/
def SrtT (ts : List T3) : Prop := ts.Pairwise fun x y => ltT x y = true
theorem srt_of {bs : List (Addr × T3)} (h : (bs.map (·.2)).Nodup) : SrtT ((bs.mergeSort lb).map (·.2)) ∧ ∀ x, x ∈ (bs.mergeSort lb).map (·.2) ↔ x ∈ bs.map (·.2) := by
  have hp := List.mergeSort_perm bs lb
  have h1 : (bs.mergeSort lb).Pairwise fun x y => lb x y = true := List.pairwise_mergeSort (fun a b c => leT_trans a.2 b.2 c.2) (fun a b => leT_total a.2 b.2) bs
  have h2 : ((bs.mergeSort lb).map (·.2)).Nodup := (hp.map _).nodup_iff.mpr h
  refine ⟨?_, fun x => (hp.map _).mem_iff⟩
  have h3 : ((bs.mergeSort lb).map (·.2)).Pairwise fun x y => leT x y = true := List.pairwise_map.mpr h1
  refine (h3.and h2).imp ?_
  rintro x y ⟨a, b⟩
  cases q : ltT x y with
  | true => rfl
  | false =>
    unfold leT at a
    exact absurd (ltT_total q (by simpa using a)) b
theorem srt_ext : ∀ {a b : List T3}, SrtT a → SrtT b → (∀ x, x ∈ a ↔ x ∈ b) → a = b
  | [], [], _, _, _ => rfl
  | [], y :: b, _, _, h => absurd ((h y).mpr List.mem_cons_self) (by simp)
  | x :: a, [], _, _, h => absurd ((h x).mp List.mem_cons_self) (by simp)
  | x :: a, y :: b, ha, hb, h => by
    obtain ⟨ha1, ha2⟩ := List.pairwise_cons.mp ha
    obtain ⟨hb1, hb2⟩ := List.pairwise_cons.mp hb
    have e : x = y := by
      rcases List.mem_cons.mp ((h x).mp List.mem_cons_self) with e | e
      · exact e
      · rcases List.mem_cons.mp ((h y).mpr List.mem_cons_self) with e2 | e2
        · exact e2.symm
        · have := ltT_trans (hb1 x e) (ha1 y e2)
          rw [ltT_irrefl] at this
          cases this
    subst e
    rw [srt_ext ha2 hb2 fun z => ?_]
    constructor
    · intro hz
      rcases List.mem_cons.mp ((h z).mp (List.mem_cons_of_mem _ hz)) with e | e
      · have := ha1 z hz
        rw [e, ltT_irrefl] at this
        cases this
      · exact e
    · intro hz
      rcases List.mem_cons.mp ((h z).mpr (List.mem_cons_of_mem _ hz)) with e | e
      · have := hb1 z hz
        rw [e, ltT_irrefl] at this
        cases this
      · exact e
/-! a dict changes: Forms and tuples stand -/
theorem tup_updT {K : PySem.W.Frag} {H : Hp} {a q : Addr} {xs : List V} {kvs : List (List L2.Key × V)} {o : HO} (ha : H a = some (.dT kvs)) (h : SqT K H q xs) : SqT K (upd H a o) q xs := by
  rcases h with (h | ⟨u, h⟩) | h
  · exact .inl (.inl ((upd_ne (fun e => by rw [e, ha] at h; cases h)).trans h))
  · exact .inl (.inr ⟨u, (upd_ne (fun e => by rw [e, ha] at h; cases h)).trans h⟩)
  · exact .inr h
theorem form_updT {K : PySem.W.Frag} {C : Addr} {H : Hp} {a f : Addr} {t : T3} {kvs : List (List L2.Key × V)} {o : HO} (ha : H a = some (.dT kvs)) (h : FormAt K C H f t) : FormAt K C (upd H a o) f t := by
  obtain ⟨dx, q, w, r, p, h1, h2, h3⟩ := h
  exact ⟨dx, q, w, r, p, (upd_ne (fun e => by rw [e, ha] at h1; cases h1)).trans h1, tup_updT ha h2, (upd_ne (fun e => by rw [e, ha] at h3; cases h3)).trans h3⟩
end G41
set_option Elab.async false
set_option linter.all false
set_option maxRecDepth 100000
set_option maxHeartbeats 4000000
namespace G41
open PySem PySem.Spec PyProof.Rows L2
/-! a dict comprehension whose keys are tuples, without tests -/
section
variable {X : Cx}
theorem dset_tup {pins : List (Addr × Obj)} {σ : L2.St} {H : Hp} {s : Shared} {E : Value → Shared → Prop} {D b : Addr} {kvs : List (List L2.Key × V)} {k : List L2.Key} {v : V} {r : Value} {Q : Unit → Shared → Prop} (hu : X.A.units < cLine) (I : Inv X pins σ H s)
    (hD : H D = some (.dT kvs)) (hb : H b = some (.tup (k.map kV))) (hl : kvs.length < sizeLine) (rv : RelV v r) (h : ∀ s', Inv X pins σ (upd H D (.dT (putK kvs k v))) s' → Q () s') : wpAny (model X.prog X.w) X.A (dictSet D (.ref b) r) Q E s := by
  obtain ⟨z, hd, xs, rel, dd⟩ := dt_of I.hok hD
  have l1 : xs.length ≤ sizeLine := Paired.length rel ▸ z
  have l2 := length_putK kvs k v
  refine wpAny_dictSet_heap (knd := tupleKind (mixKind X.prog X.w)) (hsz := l1) hu (key_of I.hok hb) dd fun h' dd' same => h _ ?_
  obtain ⟨q, es, ep, hq, g1, g2, g3, _, g4⟩ := dd'
  have kt : KT (upd H D (.dT (putK kvs k v))) (putK kvs k v) (storedH xs k b r) := (rel.put k hb rv).keeps fun c ys ec => by
    rw [upd_ne (fun e => by rw [e, hD] at ec; cases ec)]
    exact ec
  exact d_write I (by rw [hD]; trivial) same ⟨q, hq⟩ ⟨by omega, hd, _, kt, q, es, ep, hq, g1, g2, g3, g4⟩
/-- D is the dict that is being made -/
def tDcT (wi : TI) (g : TG) (tk tv : TE) (vs : List Nat) : TE := fun σ H Q => wi σ H fun J H1 => ∀ D, H1 D = none → ∃ W : Nat → Nat → Hp → Prop, (∃ m, W 0 m (upd H1 D (.dT []))) ∧ ∀ i m G, W i m G →
  (J.stop i G ∧ Q (.ref D) G) ∨ (J.go i G ∧ ∃ Nx : Hp → Prop, (∀ G', Nx G' → ∃ m', m' < m ∧ W (i + 1) m' G') ∧ ∀ x G', J.yld i G x G' → g x (wipe σ vs) G' fun σ2 G2 => wipe σ2 vs = wipe σ vs ∧
    tk σ2 G2 fun y G3 => tv σ2 G3 fun z G4 => ∃ b kvs k, y = .ref b ∧ G4 b = some (.tup (k.map kV)) ∧ G4 D = some (.dT kvs) ∧ kvs.length < sizeLine ∧ Nx (upd G4 D (.dT (putK kvs k z))))
theorem dcT_core {pins : List (Addr × Obj)} {s : Shared} {σ : L2.St} {H : Hp} {Q : VK} {pos' : Pos} {use : Option (Value → Sem Unit)} {Qf : Value → Shared → Prop} {kx vx tg iter : Expr} {scope : Scope} {own : List (Str × Nat)} {pos : Pos} {wi : TI} {g : TG} {tk tv : TE} (hc : X.calm = true) (hu : X.A.units < cLine) (hN : X.N.Nodup) (hi : PI X tg iter wi) (ok : BlkOk X.N X.env.scope scope own)
    (hg : ∀ (s : Shared) (H : Hp) (c : Addr) (cl : List (Str × Addr)) (fp : List Addr), PG (X.blk s H scope (compEnvC scope cl c X.env) fp) tg g)
    (hk : ∀ (s : Shared) (H : Hp) (c : Addr) (cl : List (Str × Addr)) (fp : List Addr), PE (X.blk s H scope (compEnvC scope cl c X.env) fp) kx tk)
    (hv : ∀ (s : Shared) (H : Hp) (c : Addr) (cl : List (Str × Addr)) (fp : List Addr), PE (X.blk s H scope (compEnvC scope cl c X.env) fp) vx tv) (hs : ∀ x, foldedSetIterable iter X.env x = pure x)
    (I : Inv X pins σ H s) (h : tDcT wi g tk tv (own.map (·.2)) σ H Q) (behind : ∀ D c s' m H', Inv X pins σ H' s' → Q (.ref D) H' → s'.heap.Ns c m → FpOk X pins H' c → compPost (model X.prog X.w) X.A X.xe use Qf (.ref D) c (.ok .next) s') :
    wpAny (model X.prog X.w) X.A (comprehension (.DictComp kx vx [⟨tg, iter, [], 0⟩] scope pos) scope X.env pos' newDict false (eval iter X.env) use) Qf X.xe s := by
  refine wpAny_comprehension_free (use := use) rfl hs (closure_ok fun y hy e => (ok.free y hy e).elim (fun k => I.ok.has _ (.inl k)) fun k => I.ok.has _ (.inr k)) ok.kind (fun y hy e => by rw [ok.uniq y hy, e]) ?_
  refine thn (hi.run pins s σ H _ I h) fun xv s1 hx => thn hx fun itv s2 ⟨it, fp, tn, J, H2, e, I2, T, st2, f2, q⟩ => ?_
  subst e
  refine wpAny_newObj_type (newEnv_comp ?_)
  have fresh : H2 s2.heap.objs.size = none := I2.hok.fresh (Nat.le_refl _)
  obtain ⟨W, ⟨m0, w0⟩, turn⟩ := q _ fresh
  have I3 : Inv X pins σ (upd H2 s2.heap.objs.size (.dT [])) { s2 with heap := s2.heap.push { cls := .type "dict", data := .dict #[] } } :=
    I2.laid (t' := s2.toks) (fun b o e => Heap.get?_push_of_some _ e) (Nat.le_refl _) (dt_empty s2.heap I2.big)
  have f3 : ∀ b ∈ fp, FpOk X pins (upd H2 s2.heap.objs.size (.dT [])) b ∧ b < (s2.heap.push { cls := .type "dict", data := .dict #[] }).objs.size := fun b hb => by
    obtain ⟨o, eo, _⟩ := T.obj _ _ st2 b hb
    have lt := Heap.lt_size eo
    refine ⟨⟨?_, (f2 b hb).2⟩, by rw [Heap.size_push]; exact Nat.lt_succ_of_lt lt⟩
    rw [upd_ne (Nat.ne_of_lt lt)]
    exact (f2 b hb).1
  generalize hD : s2.heap.objs.size = D at *
  generalize hG : upd H2 D (.dT []) = G at *
  have st3 : tn 0 (s2.heap.push { cls := .type "dict", data := .dict #[] }) := T.keep _ _ _ st2 fun b _ o e => Heap.get?_push_of_some _ e
  generalize hs3 : ({ s2 with heap := s2.heap.push { cls := .type "dict", data := .dict #[] } } : Shared) = s3 at *
  have h3 : s2.heap.push { cls := .type "dict", data := .dict #[] } = s3.heap := by rw [← hs3]
  rw [h3] at f3 st3
  have I4 := block_start I3 ok hN f3
  generalize hcl : cellsFrom (s3.heap.objs.size + 1) scope.names (cloFrom X.env.cells scope.names []) = cl at I4
  have pg := hg s3 G s3.heap.objs.size cl fp
  have pk := hk s3 G s3.heap.objs.size cl fp
  have pv := hv s3 G s3.heap.objs.size cl fp
  have st4 : tn 0 (pushCells (s3.heap.push { cls := .type "dict", data := .dict #[] }) scope.names) := T.keep _ _ _ st3 fun b _ o e => pushCells_keeps _ _ _ _ (Heap.get?_push_of_some _ e)
  have none4 : ∀ b ∈ fp, G b = none := fun b hb => (f3 b hb).1.1
  have loop : codeAny (model X.prog X.w) X.A (.compLoop (.DictComp kx vx [⟨tg, iter, [], 0⟩] scope pos) 0 (.ref it) (.ref D) (compEnvC scope cl s3.heap.objs.size X.env))
      (compPost (model X.prog X.w) X.A X.xe use Qf (.ref D) s3.heap.objs.size) { s3 with heap := pushCells (s3.heap.push { cls := .type "dict", data := .dict #[] }) scope.names } := by
    have cL : (compEnvC scope cl s3.heap.objs.size X.env).locals = s3.heap.objs.size := rfl
    generalize compEnvC scope cl s3.heap.objs.size X.env = ce at I4 pg pk pv cL ⊢
    have stat : ∀ {σ' : L2.St} {H' : Hp} {s' : Shared}, Inv (X.blk s3 G scope ce fp) [] σ' H' s' → (∀ b ∈ fp, H' b = none) → ∀ b ∈ fp, FpOk (X.blk s3 G scope ce fp) [] H' b := fun {σ' H' s'} J' hn b hb =>
      have ⟨e1, e2⟩ := J'.ok.exf b hb
      ⟨hn b hb, e1, J'.ok.exfs b hb, Or.inl hb, fun x c e => e2 x c e, fun p hp => nomatch (show p ∈ ([] : List (Addr × Obj)) from hp)⟩
    refine compLoop_anyD (fun n s' => ∃ i G', Inv (X.blk s3 G scope ce fp) [] (wipe σ (own.map (·.2))) G' s' ∧ tn i s'.heap ∧ (∀ b ∈ fp, G' b = none) ∧ W i n G') (fun n s5 hI => ?_) m0 ⟨0, G, I4, st4, none4, w0⟩
    obtain ⟨i, G5, I5, st5, n5, w5⟩ := hI
    rcases turn i n G5 w5 with ⟨stop, fin⟩ | ⟨go, Nx, hNx, step⟩
    · refine thnF (T.done (X.blk s3 G scope ce fp) rfl rfl rfl hc i [] s5 _ G5 (fun _ _ => False) I5 (stat I5 n5) st5 stop) fun r s6 ⟨hr, I6⟩ => ?_
      subst hr
      have out : Inv X pins σ G5 s6 := I3.call' (ch := fp) I6.os I6.base I6.hok I6.bare fun b hb => by
        obtain ⟨_, y1, y2, y3, y4, y5⟩ := (f3 b hb).1
        exact ⟨y3, y1, y4, y5⟩
      have nC : G5 s3.heap.objs.size = none := cL ▸ I6.free
      obtain ⟨m, hn, _⟩ := I6.loc
      have hn : s6.heap.Ns s3.heap.objs.size m := cL ▸ hn
      exact behind D s3.heap.objs.size s6 m G5 out fin hn (I3.fpOk (Nat.le_refl _) nC)
    · refine thnF (T.item (X.blk s3 G scope ce fp) rfl rfl rfl hc i [] s5 _ G5 (fun _ _ => False) I5 (stat I5 n5) st5 go) fun r s6 ⟨u, hr, h6⟩ => ?_
      subst hr
      refine thnF h6 fun _ s7 ⟨x, G7, I7, r7, y7, st7, n7⟩ => ?_
      refine thnF (pg.run _ s7 _ G7 x u _ (I7.pinned (stat I7 n7) (T.obj _ _ st7)) r7 (step x G7 y7)) fun _ s8 ⟨σ8, G8, I8, w8, q8⟩ => ?_
      refine wpAny_pure ?_
      simp only [if_true]
      refine thnF (pk.run _ s8 σ8 G8 _ I8 q8) fun z s10 ⟨yk, G10, I10, r10, q10⟩ => ?_
      refine thnF (pv.run _ s10 σ8 G10 _ I10 q10) fun z2 s11 ⟨yv, G11, I11, r11, b, kvs, k, ek, hb11, hD11, hz11, nx⟩ => ?_
      subst ek
      cases r10
      refine dset_tup (X := X.blk s3 G scope ce fp) hu I11 hD11 hb11 hz11 r11 fun s12 I12 => ?_
      obtain ⟨m', lt, w'⟩ := hNx _ nx
      have pin' : ∀ b ∈ fp, ∀ o, s7.heap.get? b = some o → s12.heap.get? b = some o ∧ upd G11 D (.dT (putK kvs k yv)) b = none := fun b hb o e => by
        obtain ⟨z1, z2, _⟩ := I12.pin (b, o) (List.mem_append_right _ (List.mem_append_right _ (mem_pinsAt hb e)))
        exact ⟨z1, z2⟩
      have len : (wipe σ (own.map (·.2))).length = σ8.length := by rw [← w8, wipe_length]
      refine ⟨m', lt, i + 1, _, (I12.unpinned (pins := [])).weak len (fun j v e => ?_), T.keep _ _ _ st7 fun b hb o e => (pin' b hb o e).1, fun b hb => ?_, w'⟩
      · rw [← w8] at e
        exact (wipe_some e).1
      · obtain ⟨o, e, _⟩ := T.obj _ _ st7 b hb
        exact (pin' b hb o e).2
  have run := codeAny_compStart_dict loop (T.self X.A 0 _ _ _ st4 loop)
  subst hcl
  subst hs3
  exact run
theorem pe_dcT {kx vx tg iter : Expr} {scope : Scope} {own : List (Str × Nat)} {pos : Pos} {wi : TI} {g : TG} {tk tv : TE} (hc : X.calm = true) (hu : X.A.units < cLine) (hN : X.N.Nodup) (hi : PI X tg iter wi) (ok : BlkOk X.N X.env.scope scope own)
    (hg : ∀ (s : Shared) (H : Hp) (c : Addr) (cl : List (Str × Addr)) (fp : List Addr), PG (X.blk s H scope (compEnvC scope cl c X.env) fp) tg g)
    (hk : ∀ (s : Shared) (H : Hp) (c : Addr) (cl : List (Str × Addr)) (fp : List Addr), PE (X.blk s H scope (compEnvC scope cl c X.env) fp) kx tk)
    (hv : ∀ (s : Shared) (H : Hp) (c : Addr) (cl : List (Str × Addr)) (fp : List Addr), PE (X.blk s H scope (compEnvC scope cl c X.env) fp) vx tv) (hs : ∀ x, foldedSetIterable iter X.env x = pure x := by intro _; rfl) :
    PE X (.DictComp kx vx [⟨tg, iter, [], 0⟩] scope pos) (tDcT wi g tk tv (own.map (·.2))) := by
  refine ⟨fun pins s σ H Q I h => ?_⟩
  rw [arm_eval_DictComp]
  refine dcT_core (use := none) hc hu hN hi ok hg hk hv hs I h fun D c s' m H' I' q hn hf => ⟨m, hn, fun h'' sb => ?_⟩
  obtain ⟨y0, y1, y2, y3, y4, y5⟩ := hf
  exact ⟨.ref D, H', I'.turned (t' := s'.toks) (fun b o hb e => (sb.2 b hb).trans e) y0 y1 y3 y4 y5, rfl, q⟩
/-- the new dict goes into a local variable -/
theorem ps_setDcT {i : Nat} {y : Str} {py spos : Pos} {kx vx tg iter : Expr} {scope : Scope} {own : List (Str × Nat)} {pos : Pos} {wi : TI} {g : TG} {tk tv : TE} (hc : X.calm = true) (hu : X.A.units < cLine) (hN : X.N.Nodup) (hy : X.N[i]? = some y) (hyl : X.env.scope.names.lookup y = some .local) (hsw : swapsWith (.DictComp kx vx [⟨tg, iter, [], 0⟩] scope pos) (some (.Name y py)) spos.line X.env = pure true) (hi : PI X tg iter wi) (ok : BlkOk X.N X.env.scope scope own)
    (hg : ∀ (s : Shared) (H : Hp) (c : Addr) (cl : List (Str × Addr)) (fp : List Addr), PG (X.blk s H scope (compEnvC scope cl c X.env) fp) tg g)
    (hk : ∀ (s : Shared) (H : Hp) (c : Addr) (cl : List (Str × Addr)) (fp : List Addr), PE (X.blk s H scope (compEnvC scope cl c X.env) fp) kx tk)
    (hv : ∀ (s : Shared) (H : Hp) (c : Addr) (cl : List (Str × Addr)) (fp : List Addr), PE (X.blk s H scope (compEnvC scope cl c X.env) fp) vx tv) (hs : ∀ x, foldedSetIterable iter X.env x = pure x := by intro _; rfl) :
    PS X (.Assign [.Name y py] (.DictComp kx vx [⟨tg, iter, [], 0⟩] scope pos) spos) (tAsg (tDcT wi g tk tv (own.map (·.2))) (gName i)) := by
  refine ⟨fun pins s σ H E I h => ?_⟩
  rw [exec_Assign_Name_used _ _ _ _ hsw]
  refine wpAny_bind (wpAny_standAt (wpAny_bind ?_))
  show wpAny _ X.A (do let _ ← comprehension (.DictComp kx vx [⟨tg, iter, [], 0⟩] scope pos) scope X.env (firstIterPos [⟨tg, iter, [], 0⟩] pos) newDict false (eval iter X.env) (some (assign (.Name y py) X.env))) _ _ s
  have h : tDcT wi g tk tv (own.map (·.2)) σ H (fun x H1 => gName i x σ H1 E.nx) := h
  refine wpAny_bind (thn (dcT_core (Qf := fun _ s' => SP X pins E .next s') hc hu hN hi ok hg hk hv hs I h fun D c s' m H' I' q hn hf => ?_) fun _ s' hq => wpAny_pure (wpAny_pure hq))
  show wpAny _ _ (assign (.Name y py) X.env (.ref D)) _ _ _
  refine wpAny_assign_Name (store_ok2 (v := V.ref D) I' hN hy (.inl hyl) rfl (fun s2 I2 ⟨a, sb, ha⟩ => ?_) (.inr hyl))
  obtain ⟨y0, y1, y2, y3, y4, y5⟩ := hf
  have off : c ≠ a := by
    rcases ha with z | z
    · exact z ▸ y1
    · exact fun e => y4 y a z e.symm
  exact ⟨m, hn.sameBut sb off, fun h3 sb3 => ⟨_, H', I2.turned (t' := s2.toks) (fun b o hb e => (sb3.2 b hb).trans e) y0 y1 y3 y4 y5, q⟩⟩
theorem swD_true {kx vx : Expr} {gs : List Comprehension} {scope : Scope} {pos py : Pos} {y : Str} {l : Nat} {env : Env} (hk : env.scope.kind = .function) (hy : env.scope.names.lookup y = some .local) (hl : (py.line == pos.line) = true)
    (ha : (scope.names.any fun (n, k) => n == y && (k == .local || k == .cell)) = false) : swapsWith (.DictComp kx vx gs scope pos) (some (.Name y py)) l env = pure true := by
  have e1 : env.kindOf y = some .local := hy
  have e2 : env.blockKind = .function := by
    unfold Env.blockKind
    rw [hk] <;> rfl
  unfold swapsWith
  simp only [e2, e1, ha, Expr.pos, hl]
  rfl
end
end G41
set_option Elab.async false
set_option linter.all false
set_option maxRecDepth 100000
set_option maxHeartbeats 4000000
namespace G41
open PySem PySem.Spec PyProof.Rows L2
/-! comprehensions with a test; lists of triples -/
section
variable {K : PySem.W.Frag} {a : Addr} {g : TG} {tt : TT} {te : TE} {vs : List Nat} {σ : L2.St} {H0 : Hp} {D : Addr} {Qd : Hp → Prop} {α : Type}
theorem fil_take {p : α → Bool} {as : List α} {i : Nat} {z : α} (h : as[i]? = some z) : (as.take (i + 1)).filter p = if p z = true then (as.take i).filter p ++ [z] else (as.take i).filter p := by
  rw [List.take_add_one, h, List.filter_append]
  by_cases q : p z = true
  · rw [if_pos q]; simp [q]
  · rw [if_neg q]; simp [q]
theorem fil_len (p : α → Bool) (as : List α) (i : Nat) : ((as.take i).filter p).length ≤ as.length := by
  have h1 := List.length_filter_le p (as.take i)
  have h2 : (as.take i).length ≤ as.length := by rw [List.length_take]; omega
  omega
/-- the turn of a comprehension with one test whose item is handed on -/
abbrev FilTurn (g : TG) (tt : TT) (te : TE) (vs : List Nat) (σ : L2.St) (x : V) (H : Hp) (Qt : V → Hp → Prop) (Qn : Hp → Prop) : Prop := g x (wipe σ vs) H fun σ2 H2 => wipe σ2 vs = wipe σ vs ∧ tt σ2 H2 fun b H3 => if b = true then te σ2 H3 Qt else Qn H3
theorem fil_core (e : α → V) (as : List α) (p : α → Bool) (hD : H0 D = none) (hlen : as.length ≤ 100000)
    (step : ∀ z ∈ as, ∀ H (Qt : V → Hp → Prop) (Qn : Hp → Prop), Same H0 H → (p z = true → ∀ H4, Same H H4 → Qt (e z) H4) → (p z = false → ∀ H4, Same H H4 → Qn H4) → FilTurn g tt te vs σ (e z) H Qt Qn) (i : Nat) (x : V) (H : Hp) (hi : (as.map e)[i]? = some x)
    (hP : Same H0 H ∧ H D = some (.lst (((as.take i).filter p).map e))) :
    g x (wipe σ vs) H fun σ2 H2 => wipe σ2 vs = wipe σ vs ∧ tt σ2 H2 fun b H3 => if b = true then te σ2 H3 fun y H4 => ∃ acc, H4 D = some (.lst acc) ∧ acc.length < sizeLine ∧
      (Same H0 (upd H4 D (.lst (acc ++ [y]))) ∧ upd H4 D (.lst (acc ++ [y])) D = some (.lst (((as.take (i + 1)).filter p).map e))) else (Same H0 H3 ∧ H3 D = some (.lst (((as.take (i + 1)).filter p).map e))) := by
  obtain ⟨s, hd⟩ := hP
  obtain ⟨z, hz, rfl⟩ : ∃ z, as[i]? = some z ∧ x = e z := by
    rw [List.getElem?_map] at hi
    cases q : as[i]? with
    | none => rw [q] at hi; cases hi
    | some z => rw [q] at hi; exact ⟨z, rfl, (Option.some.inj hi).symm⟩
  refine step z (List.mem_of_getElem? hz) H _ _ s (fun hp H4 s4 => ?_) (fun hp H4 s4 => ?_)
  · refine ⟨_, s4 _ _ hd, Nat.lt_of_le_of_lt (show _ ≤ 100000 by rw [List.length_map]; have := fil_len p as i; omega) (by decide), same_mut (s.trans s4) hD, ?_⟩
    rw [upd_same, fil_take hz, if_pos hp, List.map_append]
    rfl
  · refine ⟨s.trans s4, ?_⟩
    rw [s4 _ _ hd, fil_take hz, if_neg (by simp [hp])]
theorem lc_filtL (e : α → V) (as : List α) (p : α → Bool) (hD : H0 D = none) (hx : SqL K H0 a (as.map e)) (hlen : as.length ≤ 100000)
    (step : ∀ z ∈ as, ∀ H (Qt : V → Hp → Prop) (Qn : Hp → Prop), Same H0 H → (p z = true → ∀ H4, Same H H4 → Qt (e z) H4) → (p z = false → ∀ H4, Same H H4 → Qn H4) → FilTurn g tt te vs σ (e z) H Qt Qn)
    (k : ∀ H', Same H0 H' → H' D = some (.lst ((as.filter p).map e)) → Qd H') : LcG (Itl K a) g tt te vs σ H0 D Qd :=
  lc_list (K := K) (a := a) (xs := as.map e) (fun i H => Same H0 H ∧ H D = some (.lst (((as.take i).filter p).map e))) ⟨same_new hD, upd_same⟩ (fun i H _ q => lst_same hx q.1) (fun i x H hi q => fil_core e as p hD hlen step i x H hi q)
    (fun H q => k H q.1 (by have := q.2; rw [List.length_map, List.take_length] at this; exact this))
theorem lc_filtT (e : α → V) (as : List α) (p : α → Bool) (hD : H0 D = none) (hx : SqT K H0 a (as.map e)) (hlen : as.length ≤ 100000)
    (step : ∀ z ∈ as, ∀ H (Qt : V → Hp → Prop) (Qn : Hp → Prop), Same H0 H → (p z = true → ∀ H4, Same H H4 → Qt (e z) H4) → (p z = false → ∀ H4, Same H H4 → Qn H4) → FilTurn g tt te vs σ (e z) H Qt Qn)
    (k : ∀ H', Same H0 H' → H' D = some (.lst ((as.filter p).map e)) → Qd H') : LcG (Itt K a) g tt te vs σ H0 D Qd :=
  lc_tup (K := K) (a := a) (xs := as.map e) (fun i H => Same H0 H ∧ H D = some (.lst (((as.take i).filter p).map e))) ⟨same_new hD, upd_same⟩ (fun i H _ q => same_tup q.1 hx) (fun i x H hi q => fil_core e as p hD hlen step i x H hi q)
    (fun H q => k H q.1 (by have := q.2; rw [List.length_map, List.take_length] at this; exact this))
/-- a comprehension without a test over a tuple -/
theorem lc_mapT {xs : List V} (R : Nat → V → Hp → Prop) (sR : Stab R) (hD : H0 D = none) (hx : SqT K H0 a xs) (hlen : xs.length ≤ 100000)
    (step : ∀ i x H (Qc : V → Hp → Prop), xs[i]? = some x → Same H0 H → (∀ y H4, Same H H4 → R i y H4 → Qc y H4) → g x (wipe σ vs) H fun σ2 H2 => wipe σ2 vs = wipe σ vs ∧ te σ2 H2 Qc)
    (k : ∀ H' ys, Same H0 H' → H' D = some (.lst ys) → ys.length = xs.length → (∀ i y, ys[i]? = some y → R i y H') → Qd H') : LcG (Itt K a) g tYes te vs σ H0 D Qd := by
  refine lc_tup (K := K) (a := a) (xs := xs) (fun i H => Same H0 H ∧ ∃ ys, H D = some (.lst ys) ∧ ys.length = i ∧ ∀ j y, ys[j]? = some y → R j y H)
    ⟨same_new hD, [], upd_same, rfl, fun j y h => by cases h⟩ (fun i H _ q => same_tup q.1 hx) (fun i x H hi q => ?_) (fun H ⟨s, ys, hd, hl, hy⟩ => k H ys s hd hl hy)
  obtain ⟨s, ys, hd, hl, hy⟩ := q
  have hi2 : i < xs.length := (List.getElem?_eq_some_iff.mp hi).1
  refine step i x H _ hi s (fun y H4 s4 r => ?_)
  have hd4 := s4 _ _ hd
  refine ⟨ys, hd4, Nat.lt_of_le_of_lt (show ys.length ≤ 100000 by omega) (by decide), same_mut (s.trans s4) hD, ys ++ [y], upd_same, by rw [List.length_append, hl]; rfl, fun j z hz => ?_⟩
  refine sR.lst _ _ _ _ _ _ hd4 ?_
  rcases Nat.lt_trichotomy j ys.length with c | c | c
  · rw [List.getElem?_append_left c] at hz
    exact sR.same _ _ _ _ s4 (hy j z hz)
  · subst c
    rw [List.getElem?_append_right (Nat.le_refl _), Nat.sub_self] at hz
    cases hz
    rw [hl]; exact r
  · rw [List.getElem?_eq_none (by rw [List.length_append]; show ys.length + 1 ≤ j; omega)] at hz
    cases hz
/-- triples at their addresses stand while objects are made, and while lists change -/
theorem tups_same {H H' : Hp} {bs : List (Addr × T3)} (h : TupsAt K H bs) (s : Same H H') : TupsAt K H' bs := fun b hb => same_tup s (h b hb)
theorem tups_upd {H : Hp} {q : Addr} {zs : List V} {o : HO} {bs : List (Addr × T3)} (ha : H q = some (.lst zs)) (h : TupsAt K H bs) : TupsAt K (upd H q o) bs := fun b hb => tup_upd ha (h b hb)
theorem tups_add {H : Hp} {bs : List (Addr × T3)} {c : Addr} {t : T3} (h : TupsAt K H bs) (h2 : T3At K H c t) : TupsAt K H (bs ++ [(c, t)]) := fun b hb => by
  rcases List.mem_append.mp hb with hb | hb
  · exact h b hb
  · rw [List.mem_singleton.mp hb]
    exact h2
theorem rf_add (bs : List (Addr × T3)) (c : Addr) (t : T3) : rf bs ++ [V.ref c] = rf (bs ++ [(c, t)]) := by
  show bs.map _ ++ _ = (bs ++ _).map _
  rw [List.map_append]
  rfl
theorem dp_lst {H : Hp} {q : Addr} {bs : List (Addr × T3)} (h : SqL K H q (rf bs)) (ht : TupsAt K H bs) : Dp K H (.ref q) (.list ((bs.map (·.2)).map d3)) := by
  have := Dp.lst h (dp_all ht)
  rwa [List.map_map]
theorem any_d3 (ts : List T3) (t : T3) : ((ts.map d3).any fun z => PyData.eqv z (d3 t)) = decide (t ∈ ts) := by
  rw [Bool.eq_iff_iff, List.any_eq_true, decide_eq_true_iff]
  constructor
  · rintro ⟨z, hz, h⟩
    obtain ⟨u, hu, rfl⟩ := List.mem_map.mp hz
    rw [d3_eqv] at h
    rw [← of_decide_eq_true h]; exact hu
  · intro h
    exact ⟨d3 t, List.mem_map_of_mem h, by rw [d3_eqv]; simp⟩
theorem eqv_list : ∀ ts us : List T3, PyData.eqv (.list (ts.map d3)) (.list (us.map d3)) = decide (ts = us) := by
  intro ts us
  show PyData.eqvAll (ts.map d3) (us.map d3) = _
  induction ts generalizing us with
  | nil => cases us with
    | nil => simp [PyData.eqvAll]
    | cons u us => simp [PyData.eqvAll]
  | cons t ts ih => cases us with
    | nil => simp [PyData.eqvAll]
    | cons u us =>
      show (PyData.eqv (d3 t) (d3 u) && PyData.eqvAll (ts.map d3) (us.map d3)) = _
      rw [ih, d3_eqv]
      by_cases h1 : t = u <;> by_cases h2 : ts = us <;> simp [h1, h2]
end
end G41
set_option Elab.async false
set_option linter.all false
set_option maxRecDepth 100000
set_option maxHeartbeats 4000000
namespace G41
open PySem PySem.Spec PyProof.Rows L2
abbrev s_classes_giving : Stmt := top 68
abbrev nm_classes_giving : List Str := ["discriminant", "number", "found", "form", "lead", "own"]
abbrev ps_classes_giving : List Str := ["discriminant", "number"]
theorem sc_classes_giving : FnScope nm_classes_giving ps_classes_giving (defScope s_classes_giving) := ⟨rfl, rfl, rfl, by decide +kernel, rfl, by decide +kernel, by decide +kernel⟩
theorem hu1 {k : Nat} {A : Around} (hr : Room (k + 1) A) : A.units + 1 < cLine := hr.in1.units0
theorem hu64 {k : Nat} {A : Around} (hr : Room (k + 1) A) : A.units + 64 < cLine := by
  have := hu65 hr
  omega
local macro_rules | `(tactic| fail "rd1") => `(tactic| first
  | refine ⟨_, rfl, ?_⟩
  | refine ⟨_, _, rfl, rfl, ?_⟩
  | refine ⟨rfl, ?_⟩
  | refine ⟨_, _, rfl, ?_⟩
  | refine ⟨_, _, _, rfl, ?_⟩
  | fail)
local macro_rules | `(tactic| fail "rd") => `(tactic| repeat (fail "rd1"))
local macro_rules | `(tactic| fail "nn") => `(tactic| first
  | with_reducible assumption
  | (apply lkn; fail "ne"; fail "nn")
  | (apply none_same; with_reducible assumption; fail "sm"))
local macro_rules | `(tactic| fail "ne") => `(tactic| first
  | with_reducible assumption
  | exact (old_ne (by with_reducible assumption) (by with_reducible assumption)).1
  | exact (old_ne (by with_reducible assumption) (by with_reducible assumption)).2
  | (apply ne_new1; with_reducible assumption; fail "lk")
  | (apply ne_new2; with_reducible assumption; fail "lk"))
local macro_rules | `(tactic| fail "lk") => `(tactic| first
  | with_reducible assumption
  | exact upd_same
  | (apply lkn; fail "ne"; fail "lk")
  | (apply same_upd; with_reducible assumption; fail "lk"))
local macro_rules | `(tactic| fail "sm") => `(tactic| first
  | with_reducible assumption
  | exact Same.refl _
  | (apply same_mut; fail "sm"; fail "nn")
  | (apply trans_same; with_reducible assumption; fail "sm"))
local macro_rules | `(tactic| fail "sl") => `(tactic| first
  | with_reducible assumption
  | (apply lst_same; with_reducible assumption; fail "sm")
  | (apply SqL.of; fail "lk")
  | (apply lst_new; fail "nn"; fail "sl")
  | (apply lst_updn; fail "ne"; fail "sl")
  | (apply lst_trans; with_reducible assumption; fail "sl"))
local macro_rules | `(tactic| fail "st") => `(tactic| first
  | with_reducible assumption
  | (apply tup_same; with_reducible assumption; fail "sm")
  | (apply SqT.of; fail "lk")
  | (apply tup_new; fail "nn"; fail "st")
  | (apply tup_upd; fail "lk"; fail "st")
  | (apply tup_trans; with_reducible assumption; fail "st")
  | (apply tup_updI; fail "lk"; fail "st"))
local macro_rules | `(tactic| fail "nw") => `(tactic| (repeat (refine nwI (fun _ _ => ?_))); refine fun _ => ?_)
local macro_rules | `(tactic| fail "ln") => `(tactic| first
  | exact lenLt (Nat.le_of_ble_eq_true rfl)
  | exact Nat.le_of_ble_eq_true rfl)
local macro_rules | `(tactic| fail "un") => `(tactic| first
  | apply un_lcR
  | (refine un_lc2 2 ?_)
  | (apply un_lcL; fail "sl")
  | (apply un_lcT; fail "st")
  | (apply un_lcZ; fail "sl")
  | (apply un_lcZT; fail "st")
  | (apply un_lcZM; fail "sl"))
local macro_rules | `(tactic| fail "uf") => `(tactic| first
  | apply un_forR
  | (apply un_forL; fail "sl")
  | (apply un_forT; fail "st")
  | (apply un_forZ; fail "sl")
  | (apply un_forZT; fail "st")
  | (apply un_forZM; fail "sl")
  | (apply un_forE; fail "st"))
local macro_rules | `(tactic| fail "ns") => `(tactic| try simp only [wipe, L2.start, List.set_cons_zero, List.set_cons_succ, List.map_cons, List.map_nil, List.length_cons, List.length_nil, List.replicate_succ, List.replicate_zero, List.cons_append, List.nil_append, Nat.reduceAdd, Nat.reduceSub])
local macro_rules | `(tactic| fail "da") => `(tactic| first
  | exact DpAll.nil
  | (apply DpAll.cons; (first | exact Dp.int _ | (apply Dp.tup; fail "st"; fail "da") | (apply Dp.lst; fail "sl"; fail "da") | exact Dp.bl _ | exact Dp.str _); fail "da"))
local macro_rules | `(tactic| fail "dp") => `(tactic| first
  | exact Dp.int _
  | (apply Dp.tup; fail "st"; fail "da")
  | (apply Dp.lst; fail "sl"; fail "da"))
local macro_rules | `(tactic| fail "so") => `(tactic| first
  | (apply sx_upd; fail "so")
  | (apply sx_mut; fail "so"; fail "nn")
  | (apply sx_of; fail "sm"))
local macro_rules | `(tactic| fail "lg") => `(tactic| (refine PyProof.Rows.int_text_len_1921 (lg_small ?_); omega))
local macro_rules | `(tactic| fail "sx1") => `(tactic| (conv => whnf); first
  | (refine fun _ => ?_; fail "nw"; first | fail "un" | skip)
  | (refine fun _ => ?_)
  | (refine wipe_1 (by decide) ?_; fail "ns")
  | (refine wipe_2 (by decide) (by decide) ?_; fail "ns")
  | (refine ⟨_, rfl, ?_⟩)
  | (refine ⟨rfl, ?_⟩)
  | (refine ⟨_, _, rfl, rfl, ?_⟩)
  | (refine ⟨_, _, rfl, ?_⟩)
  | (refine ⟨_, _, _, rfl, ?_⟩)
  | apply un_forR
  | (apply un_forL; fail "sl")
  | (apply un_forT; fail "st")
  | (apply un_forZ; fail "sl")
  | (apply un_forZT; fail "st")
  | (apply un_forZM; fail "sl")
  | (apply un_forE; fail "st")
  | apply un_inR
  | (apply tyI; fail "sl")
  | (apply dpI; fail "dp"; fail "dp"; rfl; rfl)
  | (apply gtI; fail "st"; rfl)
  | apply isi_ii
  | apply isi_ib
  | (apply isi_tt; fail "st")
  | refine divN1 ?_
  | (apply nx_range; exact Nat.le_of_ble_eq_true rfl)
  | (apply nx_list; fail "sl"; rfl)
  | (apply nx_tup; fail "st"; rfl)
  | (apply nx_zip; fail "sl"; fail "sl"; rfl; rfl)
  | (apply nx_zipT; fail "st"; fail "st"; rfl; rfl)
  | (apply nx_zipM; fail "sl"; fail "st"; rfl; rfl)
  | (apply nx_enumT; fail "st"; rfl)
  | (apply st_range; fail "ln")
  | (apply st_list; fail "sl"; fail "ln")
  | (apply st_tup; fail "st"; fail "ln")
  | (apply st_zip; fail "sl"; fail "sl"; fail "ln")
  | (apply st_zipT; fail "st"; fail "st"; fail "ln")
  | (apply st_zipM; fail "sl"; fail "st"; rfl; rfl)
  | (apply st_enumT; fail "st"; rfl)
  | (apply mulR; with_reducible assumption)
  | (apply mulL; with_reducible assumption)
  | (apply accI; fail "lk"; fail "ln")
  | (apply apdI; fail "lk"; fail "ln")
  | (apply ixLI; fail "sl"; rfl)
  | (apply ixTI; fail "st"; rfl)
  | (apply setI; fail "lk"; rfl)
  | (apply slLI; fail "sl")
  | (apply sum2I; fail "sl")
  | (apply rep2I; fail "lk"; exact Nat.le_of_ble_eq_true rfl)
  | (refine And.intro (lg_small ?_) ?_; omega)
  | (apply joinI3; fail "sl"; fail "lg"; fail "lg"; fail "lg"; decide)
  | (apply enI; fail "st")
  | (apply enL; fail "sl")
  | (apply ppL; fail "sl")
  | (apply ppT; fail "st")
  | (apply pqL; fail "sl")
  | (apply pqT; fail "st")
  | (apply pzL; fail "sl"; fail "sl")
  | (apply pzT; fail "st"; fail "st")
  | (apply pzM; fail "sl"; fail "st")
  | (refine Or.inl ⟨_, rfl, ?_⟩)
  | (refine Or.inr ⟨_, rfl, ?_⟩)
  | (apply pxL; fail "sl")
  | (apply pxT; fail "st")
  | (refine iteTI rfl ?_)
  | (refine iteFI Bool.false_ne_true ?_)
  | (refine iteTI ?_ ?_; (simp [*]; done))
  | (refine iteFI ?_ ?_; (simp [*]; done))
  | (refine And.intro ?_ ?_; first | decide | (simp only [List.length_append, List.length_cons, List.length_nil]; decide)))
local macro_rules | `(tactic| fail "sx") => `(tactic| repeat (fail "sx1"))
local macro_rules | `(tactic| fail "tx1") => `(tactic| (conv => whnf); first
  | (refine fun _ => ?_; fail "nw")
  | (refine fun _ => ?_)
  | (refine wipe_1 (by decide) ?_; fail "ns")
  | (refine wipe_2 (by decide) (by decide) ?_; fail "ns")
  | (refine ⟨_, rfl, ?_⟩)
  | (refine ⟨rfl, ?_⟩)
  | (refine ⟨_, _, rfl, rfl, ?_⟩)
  | (refine ⟨_, _, rfl, ?_⟩)
  | (refine ⟨_, _, _, rfl, ?_⟩)
  | apply un_forR
  | (apply un_forL; fail "sl")
  | (apply un_forT; fail "st")
  | (apply un_forZ; fail "sl")
  | (apply un_forZT; fail "st")
  | (apply un_forZM; fail "sl")
  | (apply un_forE; fail "st")
  | apply un_inR
  | (apply tyI; fail "sl")
  | (apply dpI; fail "dp"; fail "dp"; rfl; rfl)
  | (apply gtI; fail "st"; rfl)
  | apply isi_ii
  | apply isi_ib
  | (apply isi_tt; fail "st")
  | refine divN1 ?_
  | (apply nx_range; exact Nat.le_of_ble_eq_true rfl)
  | (apply nx_list; fail "sl"; rfl)
  | (apply nx_tup; fail "st"; rfl)
  | (apply nx_zip; fail "sl"; fail "sl"; rfl; rfl)
  | (apply nx_zipT; fail "st"; fail "st"; rfl; rfl)
  | (apply nx_zipM; fail "sl"; fail "st"; rfl; rfl)
  | (apply nx_enumT; fail "st"; rfl)
  | (apply st_range; fail "ln")
  | (apply st_list; fail "sl"; fail "ln")
  | (apply st_tup; fail "st"; fail "ln")
  | (apply st_zip; fail "sl"; fail "sl"; fail "ln")
  | (apply st_zipT; fail "st"; fail "st"; fail "ln")
  | (apply st_zipM; fail "sl"; fail "st"; rfl; rfl)
  | (apply st_enumT; fail "st"; rfl)
  | (apply mulR; with_reducible assumption)
  | (apply mulL; with_reducible assumption)
  | (apply accI; fail "lk"; fail "ln")
  | (apply apdI; fail "lk"; fail "ln")
  | (apply ixLI; fail "sl"; rfl)
  | (apply ixTI; fail "st"; rfl)
  | (apply setI; fail "lk"; rfl)
  | (apply slLI; fail "sl")
  | (apply sum2I; fail "sl")
  | (apply rep2I; fail "lk"; exact Nat.le_of_ble_eq_true rfl)
  | (refine And.intro (lg_small ?_) ?_; omega)
  | (apply joinI3; fail "sl"; fail "lg"; fail "lg"; fail "lg"; decide)
  | (apply enI; fail "st")
  | (apply enL; fail "sl")
  | (apply ppL; fail "sl")
  | (apply ppT; fail "st")
  | (apply pqL; fail "sl")
  | (apply pqT; fail "st")
  | (apply pzL; fail "sl"; fail "sl")
  | (apply pzT; fail "st"; fail "st")
  | (apply pzM; fail "sl"; fail "st")
  | (refine Or.inl ⟨_, rfl, ?_⟩)
  | (refine Or.inr ⟨_, rfl, ?_⟩)
  | (apply pxL; fail "sl")
  | (apply pxT; fail "st")
  | (refine iteTI rfl ?_)
  | (refine iteFI Bool.false_ne_true ?_)
  | (refine iteTI ?_ ?_; (simp [*]; done))
  | (refine iteFI ?_ ?_; (simp [*]; done))
  | (refine And.intro ?_ ?_; first | decide | (simp only [List.length_append, List.length_cons, List.length_nil]; decide)))
local macro_rules | `(tactic| fail "tx") => `(tactic| repeat (fail "tx1"))
local macro_rules | `(tactic| fail "om") => `(tactic| first
  | omega
  | (dsimp only; omega)
  | (split <;> omega)
  | (dsimp only; split <;> omega))
local macro_rules | `(tactic| fail "bx1") => `(tactic| first
  | (refine iteD (fun _ => ?_) (fun _ => ?_))
  | (refine iteN (fun _ => ?_) (fun _ => ?_))
  | (refine iteE (fun _ => ?_) (fun _ => ?_))
  | (refine iteTI rfl ?_)
  | (refine iteFI Bool.false_ne_true ?_)
  | (refine ⟨_, rfl, ?_⟩)
  | (refine ⟨_, _, rfl, rfl, ?_⟩)
  | (refine ⟨rfl, ?_⟩)
  | (refine ⟨_, _, rfl, ?_⟩)
  | (apply mulR; with_reducible assumption)
  | (apply mulL; with_reducible assumption)
  | (apply mulL; refine ⟨?_, ?_⟩ <;> fail "om")
  | (apply powI; fail "om"))
local macro_rules | `(tactic| fail "bx") => `(tactic| repeat' (fail "bx1"))

/-- the leading form of a form, as it is found -/
def LdOk (t L : T3) : Prop := ∃ r rs, redC 12 t = some r ∧ bndC r = true ∧ ((dsc r < 0 ∧ rs = []) ∨ (¬ dsc r < 0 ∧ bndC (stepM r) = true ∧ ringC 50 r (stepM r) = some rs)) ∧ L = minT r rs
section
variable {P : Program} {w : World} {K : PySem.W.Frag} {mg : Str → Option Value} {base : Heap} {f : Addr} {fd : FuncData} {C : Addr}
structure spCG (K : PySem.W.Frag) (C : Addr) (vs : List V) (H : Hp) (Q : VK) (E : XK) : Prop where
  ex : ∃ D n, vs = [.int D, .int n] ∧ ∃ ld : T3 → T3, isD D = true ∧ n ≠ 0 ∧ n.natAbs ≤ 60 ∧ D ≠ 0 ∧ D.natAbs ≤ 1000 ∧ (∀ t ∈ formsW D n (2 * n.natAbs), LdOk t (ld t)) ∧
    ∀ H' q fs ts, Same H H' → SqT K H' q (fs.map V.ref) → FsAt K C H' fs ts → SrtT ts → ts.length ≤ 120 → (∀ x, x ∈ ts ↔ ∃ t ∈ formsW D n (2 * n.natAbs), ld t = x) → Q (.ref q) H'
theorem ok_classes_giving (T : Tx K mg) (CP_coefficients : PrpF P w K mg base C "coefficients" 1 ps_Form_coefficients (spCoef K C)) (C_check_discriminant : Cal P w K mg base 4 "check_discriminant" ps_check_discriminant (fun vs H Q _ => ∃ v : Int, vs = [.int v] ∧ isD v = true ∧ ∀ H', Same H H' → Q .non H'))
    (C_is_between : Cal P w K mg base 2 "is_between" ps_is_between spBetween) (C_forms_with : Cal P w K mg base 8 "forms_with" ps_forms_with (spFW K C)) (C_lead_of : Cal P w K mg base 11 "lead_of" ps_lead_of (spLO K C)) (F : FnP K "classes_giving" s_classes_giving f fd) : FnOk P w K mg base CX0 12 f fd ps_classes_giving (spCG K C) := by
  refine F.ok sc_classes_giving (fun vs H Q E h => ?_) (fun cdv A outer s H vs Q E hr h => ?_)
  · obtain ⟨D, n, rfl, _⟩ := h
    rfl
  · obtain ⟨D, n, rfl, ld, hD, n0, n1, D0, D1, hl, k⟩ := h
    refine ⟨_, PSs.nox (pss_cons (ps_expr (pe_cal C_check_discriminant hr (pa_cons (pv 0) pa_nil)))
    (pss_cons (ps_if (PW.pt (pw_or (pt_not (pt_val (pe_cal C_is_between hr (pa_cons (pv 1) (pa_cons (pe_un un_neg (pe_gi T.g_number)) (pa_cons (pe_gi T.g_number) pa_nil)))))) (pw_or1 (pt_cmpR op_eq (pv 1) pe_int (nomark _)))))
    (pss_one ps_never)
    pss_nil)
    (pss_cons (ps_set (i := 2) sc_classes_giving.nd rfl (by first | exact Or.inl rfl | exact Or.inr rfl) pe_dnewT)
    (pss_cons (ps_for PassesOwn.never rfl (k_pl (K := K) rfl (pe_cal C_forms_with hr (pa_cons (pv 0) (pa_cons (pv 1) pa_nil)))) (pg_name (i := 3) sc_classes_giving.nd rfl (by first | exact Or.inl rfl | exact Or.inr rfl))
    (pss_cons (ps_set (i := 4) sc_classes_giving.nd rfl (Or.inl rfl) (pe_cal C_lead_of hr (pa_cons (pv 3) pa_nil)))
    (pss_one (ps_dput (hu1 hr) (pv 2) (pe_prp CP_coefficients hr (pv 4)) (pv 4) (by rfl)))))
    (pss_one (ps_ret (pe_callTy (k_tuple (K := K) rfl) (by rfl) T.b_tuple (by decide +kernel) (pa_cons (pe_lc (own := [("own", 5)]) rfl sc_classes_giving.nd (k_pl (K := K) rfl (pe_callB (cr_sortKT (hu64 hr) rfl) (by rfl) T.b_sorted (by decide +kernel) (pa_cons (pv 2) pa_nil))) (blkOk_by (own := [("own", 5)]) (by kernel_rfl)) (fun _ _ _ _ _ => (pg_name (i := 5) sc_classes_giving.nd rfl (by first | exact Or.inl rfl | exact Or.inr rfl))) (fun _ _ _ _ _ => pts_nil) (fun _ _ _ _ _ => (pe_dget (hu1 hr) (pv 2) (pv 5) (fun _ _ => rfl)))) pa_nil)))))))), ?_⟩
    fail "rd"
    refine ⟨hD, fun H1 s1 => ?_⟩
    fail "rd"
    have b1 : (decide (-1000 ≤ n) && decide (n ≤ 1000)) = true := by simp; omega
    rw [b1]
    fail "rd"
    · refine iteE (fun h2 => absurd h2 n0) (fun h2 => ?_)
      fail "rd"
      refine fun d hd => ?_
      fail "rd"
      refine ⟨n0, n1, D0, D1, fun H2 q2 fs s2 hq2n hq2 hF => ?_⟩
      fail "rd"
      have hlen := formsW_len D n (2 * n.natAbs)
      refine ⟨⟨_, SqL.of hq2⟩, ?_⟩
      refine for_list (K := K) (a := q2) (xs := fs.map V.ref) (fun i σ H' => ∃ kvs ts o1 o2, σ = [some (.int D), some (.int n), some (.ref d), o1, o2, none] ∧ Same H1 H' ∧ H' q2 = some (.lst (fs.map V.ref)) ∧ FsAt K C H' fs (formsW D n (2 * n.natAbs)) ∧
          H' d = some (.dT kvs) ∧ kvs.map (·.1) = ts.map k3 ∧ ts.Nodup ∧ ts.length ≤ i ∧ (∀ x, x ∈ ts ↔ ∃ t ∈ (formsW D n (2 * n.natAbs)).take i, ld t = x) ∧ ∀ t ∈ ts, ∃ f, valV kvs (k3 t) = some (.ref f) ∧ FormAt K C H' f t)
        ⟨[], [], none, none, rfl, (same_new hd).trans s2, hq2, hF, s2 _ _ upd_same, rfl, List.nodup_nil, Nat.le_refl _, fun x => by simp, fun t ht => nomatch ht⟩ (fun i σ H' _ hI => by obtain ⟨kvs, ts, o1, o2, _, _, g, _⟩ := hI; exact SqL.of g) (fun i x σ H' hi hI => ?_) (fun σ H' hI => ?_)
      · obtain ⟨kvs, ts, o1, o2, rfl, sa, hq', hF', hd', hk, hnd, hle, hmem, hval⟩ := hI
        obtain ⟨fi, hfi, rfl⟩ : ∃ p, fs[i]? = some p ∧ x = V.ref p := by
          rw [List.getElem?_map] at hi
          cases e : fs[i]? with
          | none => rw [e] at hi; cases hi
          | some p => rw [e] at hi; exact ⟨p, rfl, (Option.some.inj hi).symm⟩
        have hil : i < (formsW D n (2 * n.natAbs)).length := by rw [← hF'.1]; exact (List.getElem?_eq_some_iff.mp hfi).1
        have hti := List.getElem?_eq_getElem hil
        generalize (formsW D n (2 * n.natAbs))[i] = t at hti
        obtain ⟨r, rs, e1, e2, e3, e4⟩ := hl t (List.mem_of_getElem? hti)
        fail "rd"
        refine ⟨⟨fi, t, r, 12, 50, rs, rfl, hF'.2 i fi t hfi hti, e1, e2, by decide, e3, fun H3 f3 s3 hF3 => ?_⟩⟩
        rw [← e4] at hF3
        have hd3 := s3 _ _ hd'
        fail "rd"
        refine prCoefT hF3 fun p hp => ?_
        refine ⟨d, _, rfl, DPut.t (k := k3 (ld t)) hd3 hp (Nat.lt_of_le_of_lt (show kvs.length ≤ 1000 by have := congrArg List.length hk; simp only [List.length_map] at this; omega) (by decide)), ?_⟩
        have hnd3 : H1 d = none := hd
        refine ⟨putK kvs (k3 (ld t)) (.ref f3), putT ts (ld t), _, _, rfl, same_mut (sa.trans s3) hnd3, ?_, ?_, upd_same, keys_put _ _ hk, nodup_putT hnd, ?_, ?_, ?_⟩
        · rw [upd_ne (fun e => by rw [e, hd'] at hq'; cases hq')]
          exact s3 _ _ hq'
        · exact ⟨hF'.1, fun i f t a b => form_updT hd3 (form_same (hF'.2 i f t a b) s3)⟩
        · have := len_putT ts (ld t)
          omega
        · intro x
          rw [mem_putT, hmem, List.take_add_one, hti]
          simp only [Option.toList_some, List.mem_append, List.mem_singleton]
          constructor
          · rintro (⟨u, h1, h2⟩ | h1)
            · exact ⟨u, .inl h1, h2⟩
            · exact ⟨t, .inr rfl, h1.symm⟩
          · rintro ⟨u, h1 | h1, h2⟩
            · exact .inl ⟨u, h1, h2⟩
            · exact .inr (by rw [← h2, h1])
        · intro u hu
          rw [valV_put]
          by_cases e : k3 u = k3 (ld t)
          · rw [if_pos e]
            rw [k3_inj e]
            exact ⟨f3, rfl, form_updT hd3 hF3⟩
          · rw [if_neg e]
            rcases mem_putT.mp hu with h1 | h1
            · obtain ⟨g, g1, g2⟩ := hval u h1
              exact ⟨g, g1, form_updT hd3 (form_same g2 s3)⟩
            · rw [h1] at e
              exact absurd rfl e
      · obtain ⟨kvs, ts, o1, o2, rfl, sa, hq', hF', hd', hk, hnd, hle, hmem, hval⟩ := hI
        rw [List.length_map, hF'.1] at hle hmem
        rw [List.take_length] at hmem
        fail "rd"
        refine ⟨d, kvs, ts, rfl, .inl hd', hk, by omega, fun p bs hp hb hT hT2 => ?_⟩
        fail "rd"
        refine ⟨⟨_, SqL.of upd_same⟩, fun Dn hDn => ?_⟩
        obtain ⟨hs1, hs2⟩ := srt_of (bs := bs) (by rw [hb]; exact hnd)
        rw [hb] at hs2
        have hln : (bs.mergeSort lb).length = ts.length := by rw [List.length_mergeSort, ← hb, List.length_map]
        refine lc_map (RForm K C ((bs.mergeSort lb).map (·.2))) stab_form hDn (SqL.of upd_same) (by rw [List.length_map, hln]; omega) (fun i x H5 Qc hi s5 kq => ?_) (fun H5 ys s5 hd5 hl5 hy5 => ?_)
        · obtain ⟨b, hbi, rfl⟩ : ∃ b, (bs.mergeSort lb)[i]? = some b ∧ x = V.ref b.1 := by
            rw [List.getElem?_map] at hi
            cases e : (bs.mergeSort lb)[i]? with
            | none => rw [e] at hi; cases hi
            | some p => rw [e] at hi; exact ⟨p, rfl, (Option.some.inj hi).symm⟩
          have hbm : b ∈ bs := (List.mergeSort_perm bs lb).mem_iff.mp (List.mem_of_getElem? hbi)
          have s6 : Same H' H5 := (same_new hp).trans s5
          obtain ⟨g, g1, g2⟩ := hval b.2 (by rw [← hb]; exact List.mem_map_of_mem hbm)
          fail "rd"
          refine ⟨d, .ref g, rfl, g1 ▸ DGet.t (k := k3 b.2) (s6 _ _ hd') (s6 _ _ (hT2 b hbm)), ?_⟩
          exact kq _ _ (Same.refl _) ⟨g, b.2, rfl, by rw [List.getElem?_map, hbi]; rfl, form_same g2 s6⟩
        · obtain ⟨gs, rfl, hgs⟩ := refs_of (R := fun f i => ∃ t, ((bs.mergeSort lb).map (·.2))[i]? = some t ∧ FormAt K C H5 f t) ys fun i y hy => by
            obtain ⟨f, t, e1, e2, e3⟩ := hy5 i y hy
            exact ⟨f, e1, t, e2, e3⟩
          fail "rd"
          refine ⟨_, _, rfl, .inl ⟨SqL.of hd5, fun l hl' => ?_⟩⟩
          refine k _ l gs ((bs.mergeSort lb).map (·.2)) (s1.trans (sa.trans ((same_new hp).trans (s5.trans (same_new hl'))))) (SqT.of upd_same) ⟨?_, ?_⟩ hs1 ?_ ?_
          · rw [List.length_map] at hl5 ⊢
            rw [hl5, List.length_map]
          · intro i f t a b
            obtain ⟨t', e1, e2⟩ := hgs i f a
            rw [b] at e1
            cases e1
            exact form_same e2 (same_new hl')
          · rw [List.length_map, hln]
            omega
          · intro x
            rw [hs2, hmem]
end
end G41
set_option Elab.async false
set_option linter.all false
set_option maxRecDepth 100000
set_option maxHeartbeats 4000000
namespace G41
open PySem PySem.Spec PyProof.Rows L2
abbrev s_law_next : Stmt := top 80
abbrev nm_law_next : List Str := ["_law_own", "_law_whole_here", "_law_e", "_law_a", "_law_b", "_law_c"]
abbrev ps_law_next : List Str := ["_law_own"]
theorem sc_law_next : FnScope nm_law_next ps_law_next (defScope s_law_next) := ⟨rfl, rfl, rfl, by decide +kernel, rfl, by decide +kernel, by decide +kernel⟩
abbrev s_law_ring : Stmt := top 81
abbrev nm_law_ring : List Str := ["_law_own", "_law_found", "_law_later"]
abbrev ps_law_ring : List Str := ["_law_own"]
theorem sc_law_ring : FnScope nm_law_ring ps_law_ring (defScope s_law_ring) := ⟨rfl, rfl, rfl, by decide +kernel, rfl, by decide +kernel, by decide +kernel⟩
local macro_rules | `(tactic| fail "rd1") => `(tactic| first
  | refine ⟨_, rfl, ?_⟩
  | refine ⟨_, _, rfl, rfl, ?_⟩
  | refine ⟨rfl, ?_⟩
  | refine ⟨_, _, rfl, ?_⟩
  | refine ⟨_, _, _, rfl, ?_⟩
  | fail)
local macro_rules | `(tactic| fail "rd") => `(tactic| repeat (fail "rd1"))
local macro_rules | `(tactic| fail "nn") => `(tactic| first
  | with_reducible assumption
  | (apply lkn; fail "ne"; fail "nn")
  | (apply none_same; with_reducible assumption; fail "sm"))
local macro_rules | `(tactic| fail "ne") => `(tactic| first
  | with_reducible assumption
  | exact (old_ne (by with_reducible assumption) (by with_reducible assumption)).1
  | exact (old_ne (by with_reducible assumption) (by with_reducible assumption)).2
  | (apply ne_new1; with_reducible assumption; fail "lk")
  | (apply ne_new2; with_reducible assumption; fail "lk"))
local macro_rules | `(tactic| fail "lk") => `(tactic| first
  | with_reducible assumption
  | exact upd_same
  | (apply lkn; fail "ne"; fail "lk")
  | (apply same_upd; with_reducible assumption; fail "lk"))
local macro_rules | `(tactic| fail "sm") => `(tactic| first
  | with_reducible assumption
  | exact Same.refl _
  | (apply same_mut; fail "sm"; fail "nn")
  | (apply trans_same; with_reducible assumption; fail "sm"))
local macro_rules | `(tactic| fail "sl") => `(tactic| first
  | with_reducible assumption
  | (apply lst_same; with_reducible assumption; fail "sm")
  | (apply SqL.of; fail "lk")
  | (apply lst_new; fail "nn"; fail "sl")
  | (apply lst_updn; fail "ne"; fail "sl")
  | (apply lst_trans; with_reducible assumption; fail "sl"))
local macro_rules | `(tactic| fail "st") => `(tactic| first
  | with_reducible assumption
  | (apply tup_same; with_reducible assumption; fail "sm")
  | (apply SqT.of; fail "lk")
  | (apply tup_new; fail "nn"; fail "st")
  | (apply tup_upd; fail "lk"; fail "st")
  | (apply tup_trans; with_reducible assumption; fail "st")
  | (apply tup_updI; fail "lk"; fail "st"))
local macro_rules | `(tactic| fail "nw") => `(tactic| (repeat (refine nwI (fun _ _ => ?_))); refine fun _ => ?_)
local macro_rules | `(tactic| fail "ln") => `(tactic| first
  | exact lenLt (Nat.le_of_ble_eq_true rfl)
  | exact Nat.le_of_ble_eq_true rfl)
local macro_rules | `(tactic| fail "un") => `(tactic| first
  | apply un_lcR
  | (refine un_lc2 2 ?_)
  | (apply un_lcL; fail "sl")
  | (apply un_lcT; fail "st")
  | (apply un_lcZ; fail "sl")
  | (apply un_lcZT; fail "st")
  | (apply un_lcZM; fail "sl"))
local macro_rules | `(tactic| fail "uf") => `(tactic| first
  | apply un_forR
  | (apply un_forL; fail "sl")
  | (apply un_forT; fail "st")
  | (apply un_forZ; fail "sl")
  | (apply un_forZT; fail "st")
  | (apply un_forZM; fail "sl")
  | (apply un_forE; fail "st"))
local macro_rules | `(tactic| fail "ns") => `(tactic| try simp only [wipe, L2.start, List.set_cons_zero, List.set_cons_succ, List.map_cons, List.map_nil, List.length_cons, List.length_nil, List.replicate_succ, List.replicate_zero, List.cons_append, List.nil_append, Nat.reduceAdd, Nat.reduceSub])
local macro_rules | `(tactic| fail "da") => `(tactic| first
  | exact DpAll.nil
  | (apply DpAll.cons; (first | exact Dp.int _ | (apply Dp.tup; fail "st"; fail "da") | (apply Dp.lst; fail "sl"; fail "da") | exact Dp.bl _ | exact Dp.str _); fail "da"))
local macro_rules | `(tactic| fail "dp") => `(tactic| first
  | exact Dp.int _
  | (apply Dp.tup; fail "st"; fail "da")
  | (apply Dp.lst; fail "sl"; fail "da"))
local macro_rules | `(tactic| fail "so") => `(tactic| first
  | (apply sx_upd; fail "so")
  | (apply sx_mut; fail "so"; fail "nn")
  | (apply sx_of; fail "sm"))
local macro_rules | `(tactic| fail "lg") => `(tactic| (refine PyProof.Rows.int_text_len_1921 (lg_small ?_); omega))
local macro_rules | `(tactic| fail "sx1") => `(tactic| (conv => whnf); first
  | (refine fun _ => ?_; fail "nw"; first | fail "un" | skip)
  | (refine fun _ => ?_)
  | (refine wipe_1 (by decide) ?_; fail "ns")
  | (refine wipe_2 (by decide) (by decide) ?_; fail "ns")
  | (refine ⟨_, rfl, ?_⟩)
  | (refine ⟨rfl, ?_⟩)
  | (refine ⟨_, _, rfl, rfl, ?_⟩)
  | (refine ⟨_, _, rfl, ?_⟩)
  | (refine ⟨_, _, _, rfl, ?_⟩)
  | apply un_forR
  | (apply un_forL; fail "sl")
  | (apply un_forT; fail "st")
  | (apply un_forZ; fail "sl")
  | (apply un_forZT; fail "st")
  | (apply un_forZM; fail "sl")
  | (apply un_forE; fail "st")
  | apply un_inR
  | (apply tyI; fail "sl")
  | (apply dpI; fail "dp"; fail "dp"; rfl; rfl)
  | (apply gtI; fail "st"; rfl)
  | apply isi_ii
  | apply isi_ib
  | (apply isi_tt; fail "st")
  | refine divN1 ?_
  | (apply nx_range; exact Nat.le_of_ble_eq_true rfl)
  | (apply nx_list; fail "sl"; rfl)
  | (apply nx_tup; fail "st"; rfl)
  | (apply nx_zip; fail "sl"; fail "sl"; rfl; rfl)
  | (apply nx_zipT; fail "st"; fail "st"; rfl; rfl)
  | (apply nx_zipM; fail "sl"; fail "st"; rfl; rfl)
  | (apply nx_enumT; fail "st"; rfl)
  | (apply st_range; fail "ln")
  | (apply st_list; fail "sl"; fail "ln")
  | (apply st_tup; fail "st"; fail "ln")
  | (apply st_zip; fail "sl"; fail "sl"; fail "ln")
  | (apply st_zipT; fail "st"; fail "st"; fail "ln")
  | (apply st_zipM; fail "sl"; fail "st"; rfl; rfl)
  | (apply st_enumT; fail "st"; rfl)
  | (apply mulR; with_reducible assumption)
  | (apply mulL; with_reducible assumption)
  | (apply accI; fail "lk"; fail "ln")
  | (apply apdI; fail "lk"; fail "ln")
  | (apply ixLI; fail "sl"; rfl)
  | (apply ixTI; fail "st"; rfl)
  | (apply setI; fail "lk"; rfl)
  | (apply slLI; fail "sl")
  | (apply sum2I; fail "sl")
  | (apply rep2I; fail "lk"; exact Nat.le_of_ble_eq_true rfl)
  | (refine And.intro (lg_small ?_) ?_; omega)
  | (apply joinI3; fail "sl"; fail "lg"; fail "lg"; fail "lg"; decide)
  | (apply enI; fail "st")
  | (apply enL; fail "sl")
  | (apply ppL; fail "sl")
  | (apply ppT; fail "st")
  | (apply pqL; fail "sl")
  | (apply pqT; fail "st")
  | (apply pzL; fail "sl"; fail "sl")
  | (apply pzT; fail "st"; fail "st")
  | (apply pzM; fail "sl"; fail "st")
  | (refine Or.inl ⟨_, rfl, ?_⟩)
  | (refine Or.inr ⟨_, rfl, ?_⟩)
  | (apply pxL; fail "sl")
  | (apply pxT; fail "st")
  | (refine iteTI rfl ?_)
  | (refine iteFI Bool.false_ne_true ?_)
  | (refine iteTI ?_ ?_; (simp [*]; done))
  | (refine iteFI ?_ ?_; (simp [*]; done))
  | (refine And.intro ?_ ?_; first | decide | (simp only [List.length_append, List.length_cons, List.length_nil]; decide)))
local macro_rules | `(tactic| fail "sx") => `(tactic| repeat (fail "sx1"))
local macro_rules | `(tactic| fail "tx1") => `(tactic| (conv => whnf); first
  | (refine fun _ => ?_; fail "nw")
  | (refine fun _ => ?_)
  | (refine wipe_1 (by decide) ?_; fail "ns")
  | (refine wipe_2 (by decide) (by decide) ?_; fail "ns")
  | (refine ⟨_, rfl, ?_⟩)
  | (refine ⟨rfl, ?_⟩)
  | (refine ⟨_, _, rfl, rfl, ?_⟩)
  | (refine ⟨_, _, rfl, ?_⟩)
  | (refine ⟨_, _, _, rfl, ?_⟩)
  | apply un_forR
  | (apply un_forL; fail "sl")
  | (apply un_forT; fail "st")
  | (apply un_forZ; fail "sl")
  | (apply un_forZT; fail "st")
  | (apply un_forZM; fail "sl")
  | (apply un_forE; fail "st")
  | apply un_inR
  | (apply tyI; fail "sl")
  | (apply dpI; fail "dp"; fail "dp"; rfl; rfl)
  | (apply gtI; fail "st"; rfl)
  | apply isi_ii
  | apply isi_ib
  | (apply isi_tt; fail "st")
  | refine divN1 ?_
  | (apply nx_range; exact Nat.le_of_ble_eq_true rfl)
  | (apply nx_list; fail "sl"; rfl)
  | (apply nx_tup; fail "st"; rfl)
  | (apply nx_zip; fail "sl"; fail "sl"; rfl; rfl)
  | (apply nx_zipT; fail "st"; fail "st"; rfl; rfl)
  | (apply nx_zipM; fail "sl"; fail "st"; rfl; rfl)
  | (apply nx_enumT; fail "st"; rfl)
  | (apply st_range; fail "ln")
  | (apply st_list; fail "sl"; fail "ln")
  | (apply st_tup; fail "st"; fail "ln")
  | (apply st_zip; fail "sl"; fail "sl"; fail "ln")
  | (apply st_zipT; fail "st"; fail "st"; fail "ln")
  | (apply st_zipM; fail "sl"; fail "st"; rfl; rfl)
  | (apply st_enumT; fail "st"; rfl)
  | (apply mulR; with_reducible assumption)
  | (apply mulL; with_reducible assumption)
  | (apply accI; fail "lk"; fail "ln")
  | (apply apdI; fail "lk"; fail "ln")
  | (apply ixLI; fail "sl"; rfl)
  | (apply ixTI; fail "st"; rfl)
  | (apply setI; fail "lk"; rfl)
  | (apply slLI; fail "sl")
  | (apply sum2I; fail "sl")
  | (apply rep2I; fail "lk"; exact Nat.le_of_ble_eq_true rfl)
  | (refine And.intro (lg_small ?_) ?_; omega)
  | (apply joinI3; fail "sl"; fail "lg"; fail "lg"; fail "lg"; decide)
  | (apply enI; fail "st")
  | (apply enL; fail "sl")
  | (apply ppL; fail "sl")
  | (apply ppT; fail "st")
  | (apply pqL; fail "sl")
  | (apply pqT; fail "st")
  | (apply pzL; fail "sl"; fail "sl")
  | (apply pzT; fail "st"; fail "st")
  | (apply pzM; fail "sl"; fail "st")
  | (refine Or.inl ⟨_, rfl, ?_⟩)
  | (refine Or.inr ⟨_, rfl, ?_⟩)
  | (apply pxL; fail "sl")
  | (apply pxT; fail "st")
  | (refine iteTI rfl ?_)
  | (refine iteFI Bool.false_ne_true ?_)
  | (refine iteTI ?_ ?_; (simp [*]; done))
  | (refine iteFI ?_ ?_; (simp [*]; done))
  | (refine And.intro ?_ ?_; first | decide | (simp only [List.length_append, List.length_cons, List.length_nil]; decide)))
local macro_rules | `(tactic| fail "tx") => `(tactic| repeat (fail "tx1"))
local macro_rules | `(tactic| fail "om") => `(tactic| first
  | omega
  | (dsimp only; omega)
  | (split <;> omega)
  | (dsimp only; split <;> omega))
local macro_rules | `(tactic| fail "bx1") => `(tactic| first
  | (refine iteD (fun _ => ?_) (fun _ => ?_))
  | (refine iteN (fun _ => ?_) (fun _ => ?_))
  | (refine iteE (fun _ => ?_) (fun _ => ?_))
  | (refine iteTI rfl ?_)
  | (refine iteFI Bool.false_ne_true ?_)
  | (refine ⟨_, rfl, ?_⟩)
  | (refine ⟨_, _, rfl, rfl, ?_⟩)
  | (refine ⟨rfl, ?_⟩)
  | (refine ⟨_, _, rfl, ?_⟩)
  | (apply mulR; with_reducible assumption)
  | (apply mulL; with_reducible assumption)
  | (apply mulL; refine ⟨?_, ?_⟩ <;> fail "om")
  | (apply powI; fail "om"))
local macro_rules | `(tactic| fail "bx") => `(tactic| repeat' (fail "bx1"))

/-- where the law's step is the program's -/
structure RdN (t : T3) : Prop where
  bnd : bndC t = true
  pos : 0 < dsc t
  cs : t.2.2 * t.2.2 < dsc t
  e0 : 0 < stepE t
section
variable {P : Program} {w : World} {K : PySem.W.Frag} {mg : Str → Option Value} {base : Heap} {f : Addr} {fd : FuncData} {C : Addr}
structure spNext (K : PySem.W.Frag) (vs : List V) (H : Hp) (Q : VK) (E : XK) : Prop where
  ex : ∃ a t, vs = [.ref a] ∧ T3At K H a t ∧ RdN t ∧ ∀ H' p, Same H H' → H p = none → TpAt H' p (stepM t) → Q (.ref p) H'
theorem ok_law_next (T : Tx K mg) (C_law_d : Cal P w K mg base 1 "_law_d" ps_law_d (spLd K)) (C_law_root : Cal P w K mg base 1 "_law_root" ps_law_root spRoot) (F : FnP K "_law_next" s_law_next f fd) : FnOk P w K mg base CX0 2 f fd ps_law_next (spNext K) := by
  refine F.ok sc_law_next (fun vs H Q E h => ?_) (fun cdv A outer s H vs Q E hr h => ?_)
  · obtain ⟨a, t, rfl, _⟩ := h
    rfl
  · obtain ⟨p, ⟨a, b, c⟩, rfl, hp, hN, k⟩ := h
    refine ⟨_, PSs.nox (pss_cons (ps_asg (pv 0) (k_tup (K := K) (n := 3) rfl (by rfl) (pgs_cons (pg_name (i := 3) sc_law_next.nd rfl (by first | exact Or.inl rfl | exact Or.inr rfl)) (pgs_cons (pg_name (i := 4) sc_law_next.nd rfl (by first | exact Or.inl rfl | exact Or.inr rfl)) (pgs_cons (pg_name (i := 5) sc_law_next.nd rfl (by first | exact Or.inl rfl | exact Or.inr rfl)) pgs_nil)))))
    (pss_cons (ps_set (i := 1) sc_law_next.nd rfl (Or.inl rfl) (pe_cal C_law_d hr (pa_cons (pv 0) pa_nil)))
    (pss_cons (ps_for PassesOwn.never rfl (pi_range3 (by rfl) T.b_range (pa_cons (pe_cal C_law_root hr (pa_cons (pv 1) pa_nil)) (pa_cons pe_int (pa_cons (pe_un un_neg pe_int) pa_nil)))) (pg_name (i := 2) sc_law_next.nd rfl (by first | exact Or.inl rfl | exact Or.inr rfl))
    (pss_one (ps_if (pt_cmpR op_eq (pe_op op_mod (pe_callTy call_int1 (by rfl) T.b_int (by decide +kernel) (pa_cons (pe_op op_add (pv 4) (pv 2)) pa_nil)) (pe_op op_mul pe_int (pe_callB call_abs (by rfl) T.b_abs (by decide +kernel) (pa_cons (pv 5) pa_nil)))) pe_int (nomark _))
    (pss_one (ps_ret (pe_tup (pa_cons (pv 5) (pa_cons (pv 2) (pa_cons (pe_op op_fdivN (pe_op op_sub (pe_op op_mul (pv 2) (pv 2)) (pv 1)) (pe_op op_mul pe_int (pv 5))) pa_nil))))))
    pss_nil)))
    (pss_one (ps_ret (pv 0)))))), ?_⟩
    obtain ⟨bo, bs, bc, bd1, bd2⟩ := bnd_of hN.bnd
    obtain ⟨b1, b2, b3⟩ := id bs
    simp only at b1 b2 b3 bc
    have hpos := hN.pos
    have hcs : c * c < dsc (a, b, c) := hN.cs
    have he0 := hN.e0
    generalize hDD : dsc (a, b, c) = D at *
    have hp' : SqT K H p [.int a, .int b, .int c] := hp
    have mc : Sm c := ⟨by omega, by omega⟩
    have m2 : Sm 2 := ⟨by decide, by decide⟩
    have m4 : Sm 4 := ⟨by decide, by decide⟩
    fail "sx"
    refine ⟨⟨p, (a, b, c), rfl, hp, bs, ?_⟩⟩
    rw [hDD]
    fail "sx"
    refine ⟨by omega, by omega, fun H1 s1 => ?_⟩
    fail "sx"
    have w0 := isq_nn D
    have w1 := isq_le (v := D) (by omega) (by omega)
    have ew : stepE (a, b, c) = isq D - (isq D + b) % (2 * absI c) := by
      have : mostM (a, b, c) = isq D := by
        show (if (decide (0 < dsc (a, b, c)) && decide (c * c < dsc (a, b, c))) = true then isq (dsc (a, b, c)) else absI c) = _
        rw [hDD, decide_eq_true hpos, decide_eq_true hcs]
        rfl
      unfold stepE
      rw [this]
    have kk := stepK_ok (a, b, c) bc
    have hm0 : 0 < 2 * absI c := by unfold absI; split <;> omega
    have hab : (if c < 0 then -c else c) = absI c := rfl
    have r0 := Int.emod_nonneg (isq D + b) (show 2 * absI c ≠ 0 by omega)
    have r1 := Int.emod_lt_of_pos (isq D + b) hm0
    generalize isq D = wd at *
    generalize hR : (wd + b) % (2 * absI c) = rr at *
    refine ⟨_, _, _, _, rfl, RgC.neg (by omega) (by omega) (by decide) (by decide), ?_⟩
    refine for_rangeC (lo := wd) (c := -1) (n := (wd - 0).toNat) (fun i σ H' => ∃ o, σ = [some (.ref p), some (.int D), o, some (.int a), some (.int b), some (.int c)] ∧ Same H H' ∧ (i : Int) ≤ rr) ⟨none, rfl, s1, by omega⟩ (fun i σ H' hi hI => ?_) (fun σ H' hI => ?_)
    · obtain ⟨o, rfl, sa, hir⟩ := hI
      fail "sx"
      rw [hab]
      have hmod : (b + (wd + (i : Int) * -1)) % (2 * absI c) = rr - i := by
        have h1 := Int.mul_ediv_add_emod (wd + b) (2 * absI c)
        rw [hR] at h1
        have h2 : b + (wd + (i : Int) * -1) = (rr - i) + (2 * absI c) * ((wd + b) / (2 * absI c)) := by omega
        rw [h2, Int.add_mul_emod_self_left]
        exact Int.emod_eq_of_lt (by omega) (by omega)
      refine ⟨hm0, ?_⟩
      fail "rd"
      refine iteE (fun h1 => ?_) (fun h1 => ?_)
      · replace h1 : rr - i = 0 := hmod ▸ h1
        have ee : wd + (i : Int) * -1 = stepE (a, b, c) := by omega
        have me : Sm (stepE (a, b, c)) := ⟨by omega, by omega⟩
        have kk' : 2 * c * stepK (a, b, c) = stepE (a, b, c) + b := kk
        have third : (stepE (a, b, c) * stepE (a, b, c) - D).fdiv (4 * c) = a - b * stepK (a, b, c) + c * stepK (a, b, c) * stepK (a, b, c) := by
          have e1 : stepE (a, b, c) = 2 * c * stepK (a, b, c) - b := by omega
          have e2 : D = b * b - 4 * a * c := hDD.symm
          rw [e1, e2, show (2 * c * stepK (a, b, c) - b) * (2 * c * stepK (a, b, c) - b) - (b * b - 4 * a * c) = (4 * c) * (a - b * stepK (a, b, c) + c * stepK (a, b, c) * stepK (a, b, c)) by grind]
          exact Int.mul_fdiv_cancel_left _ (by omega)
        rw [ee]
        fail "sx"
        have q1 : stepE (a, b, c) * stepE (a, b, c) ≤ 1000 * 1000 := Int.mul_le_mul (by omega) (by omega) (by omega) (by omega)
        have q2 : 0 ≤ stepE (a, b, c) * stepE (a, b, c) := Int.mul_nonneg (by omega) (by omega)
        refine ⟨⟨by omega, by omega⟩, ?_⟩
        fail "sx"
        rename_i T0 t0
        refine k _ T0 (sa.trans (same_new t0)) (same_none sa t0) ?_
        show upd _ T0 _ T0 = some (.tup [.int c, .int (stepE (a, b, c)), .int (a - b * stepK (a, b, c) + c * stepK (a, b, c) * stepK (a, b, c))])
        rw [← third]
        exact upd_same
      · replace h1 : rr - i ≠ 0 := fun e => h1 (hmod.trans e)
        exact ⟨_, rfl, sa, by omega⟩
    · obtain ⟨o, rfl, sa, hir⟩ := hI
      omega
structure spLring (K : PySem.W.Frag) (vs : List V) (H : Hp) (Q : VK) (E : XK) : Prop where
  ex : ∃ a t rs, vs = [.ref a] ∧ T3At K H a t ∧ Sml t ∧ ((dsc t < 0 ∧ rs = []) ∨ (¬ dsc t < 0 ∧ (∀ s ∈ t :: rs, RdN s) ∧ ringC 50 t (stepM t) = some rs)) ∧
    ∀ H' q bs, Same H H' → H q = none → H' q = some (.lst (rf bs)) → TupsAt K H' bs → bs.map (·.2) = t :: rs → Q (.ref q) H'
theorem ok_law_ring (T : Tx K mg) (C_law_d : Cal P w K mg base 1 "_law_d" ps_law_d (spLd K)) (C_law_next : Cal P w K mg base 2 "_law_next" ps_law_next (spNext K)) (F : FnP K "_law_ring" s_law_ring f fd) : FnOk P w K mg base CX0 3 f fd ps_law_ring (spLring K) := by
  refine F.ok sc_law_ring (fun vs H Q E h => ?_) (fun cdv A outer s H vs Q E hr h => ?_)
  · obtain ⟨a, t, rs, rfl, _⟩ := h
    rfl
  · obtain ⟨p, t, rs, rfl, hp, hS, hc, k⟩ := h
    refine ⟨_, PSs.nox (pss_cons (ps_if (pt_cmpR op_lt (pe_cal C_law_d hr (pa_cons (pv 0) pa_nil)) pe_int (nomark _))
    (pss_one (ps_ret (pe_lst (pa_cons (pv 0) pa_nil))))
    pss_nil)
    (pss_cons (ps_par (i := 1) (j := 2) rfl sc_law_ring.nd rfl rfl (by decide) rfl rfl (pa_cons (pe_lst (pa_cons (pv 0) pa_nil)) (pa_cons (pe_cal C_law_next hr (pa_cons (pv 0) pa_nil)) pa_nil)) (by rfl))
    (pss_cons (ps_while PassesOwn.never (PW.pt (pw_and (pt_cmpR (k_ne (K := K) rfl hr.units) (pv 2) (pv 0) (nomark _)) (pw_and1 (pt_cmpR op_lt (pe_callB (k_len (K := K) rfl) (by rfl) T.b_len (by decide +kernel) (pa_cons (pv 1) pa_nil)) pe_int (nomark _)))))
    (pss_cons (ps_expr (pe_bm PySem.F.plainAttrs_list PySem.F.slot_list_append PySem.F.type_list_append mt_append (pv 1) (pa_cons (pv 2) pa_nil)))
    (pss_one (ps_set (i := 2) sc_law_ring.nd rfl (Or.inl rfl) (pe_cal C_law_next hr (pa_cons (pv 2) pa_nil))))))
    (pss_one (ps_ret (pv 1)))))), ?_⟩
    fail "sx"
    refine ⟨⟨p, t, rfl, hp, hS, ?_⟩⟩
    fail "rd"
    refine iteD (fun h1 => ?_) (fun h1 => ?_)
    · fail "sx"
      rename_i T0 t0
      rcases hc with ⟨_, rfl⟩ | ⟨h2, _⟩
      · exact k _ T0 [(p, t)] (same_new t0) t0 upd_same (fun b hb => by rw [List.mem_singleton.mp hb]; exact same_tup (same_new t0) hp) rfl
      · exact absurd h1 h2
    · rcases hc with ⟨h2, _⟩ | ⟨_, hN, hR⟩
      · exact absurd h2 h1
      fail "sx"
      rename_i T0 t0
      refine ⟨⟨p, t, rfl, same_tup (same_new t0) hp, hN t List.mem_cons_self, fun H2 l2 s2 hl2n hl2 => ?_⟩⟩
      fail "sx"
      have sH2 : Same H H2 := (same_new t0).trans s2
      refine ⟨fun m σ H' => ∃ l t' bs dn rest, σ = [some (.ref p), some (.ref T0), some (.ref l)] ∧ Same H H' ∧ H' T0 = some (.lst (rf bs)) ∧ TupsAt K H' bs ∧ bs.map (·.2) = t :: dn ∧ T3At K H' l t' ∧ t :: rs = (t :: dn) ++ rest ∧ ringC m t t' = some rest ∧ dn.length + m ≤ 50,
        ⟨50, l2, stepM t, [(p, t)], [], rs, rfl, sH2, s2 _ _ upd_same, fun b hb => by rw [List.mem_singleton.mp hb]; exact same_tup sH2 hp, rfl, SqT.of hl2, rfl, hR, by decide⟩, ?_⟩
      rintro m σ H' ⟨l, t', bs, dn, rest, rfl, hs, hq, hT, hbs, hl, hrs, hR', hlen⟩
      obtain ⟨hbt, j, rfl, hc2⟩ := ringC_split hR'
      fail "rd"
      refine ⟨d3 t', d3 t, dp_tv hl, dp_tv (same_tup hs hp), shaped_d3 _, shaped_d3 _, ?_⟩
      rw [d3_eqv]
      fail "rd"
      have hbl : bs.length = dn.length + 1 := by have := congrArg List.length hbs; rw [List.length_map] at this; exact this
      rcases hc2 with ⟨h6, rfl⟩ | ⟨h6, r', rfl, h7⟩
      · refine iteFI (by simp [h6]) ?_
        fail "rd"
        rw [List.append_nil] at hrs
        exact k H' T0 bs hs t0 hq hT (hbs.trans hrs.symm)
      · refine iteTI (by simp [h6]) ?_
        fail "rd"
        refine ⟨T0, _, rfl, .inl (SqL.of hq), ?_⟩
        fail "rd"
        refine iteTI (decide_eq_true (by rw [List.length_map, hbl]; omega)) ?_
        refine ⟨_, fun _ _ h => h, ?_⟩
        have hmem : t' ∈ t :: rs := by rw [hrs]; exact List.mem_append_right _ List.mem_cons_self
        fail "rd"
        refine ⟨.inl ⟨rfl, _, SqL.of hq⟩, ?_⟩
        fail "rd"
        refine ⟨_, _, _, rfl, rfl, hq, by rw [List.length_map]; exact Nat.lt_of_le_of_lt (show bs.length ≤ 60 by omega) (by decide), ?_⟩
        fail "rd"
        refine ⟨⟨l, t', rfl, tup_upd hq hl, hN t' hmem, fun H3 l3 s3 hl3n hl3 => ?_⟩⟩
        fail "sx"
        have s6 : Same H (upd H' T0 (.lst (rf bs ++ [.ref l]))) := same_mut hs t0
        refine ⟨j, Nat.lt_succ_self _, l3, stepM t', bs ++ [(l, t')], dn ++ [t'], r', rfl, s6.trans s3, ?_, tups_same (tups_add (tups_upd hq hT) (tup_upd hq hl)) s3, ?_, SqT.of hl3, ?_, h7, ?_⟩
        · rw [← rf_add]; exact s3 _ _ upd_same
        · rw [List.map_append, hbs]; rfl
        · rw [hrs]; simp
        · rw [List.length_append]; show dn.length + 1 + j ≤ 50; omega
end
end G41
set_option Elab.async false
set_option linter.all false
set_option maxRecDepth 100000
set_option maxHeartbeats 4000000
namespace G41
open PySem PySem.Spec PyProof.Rows L2
abbrev s_law_all_reduced : Stmt := top 79
abbrev nm_law_all_reduced : List Str := ["_law_whole_here", "_law_found", "_law_top", "_law_a", "_law_b", "_law_c", "_law_own", "_law_good"]
abbrev ps_law_all_reduced : List Str := ["_law_whole_here"]
theorem sc_law_all_reduced : FnScope nm_law_all_reduced ps_law_all_reduced (defScope s_law_all_reduced) := ⟨rfl, rfl, rfl, by decide +kernel, rfl, by decide +kernel, by decide +kernel⟩
theorem k_sortT3 {X : Cx} {K : PySem.W.Frag} (h : X.K = K) (hr : X.A.units + 64 < cLine) : CallR X (.builtin "sorted") (rSortT3 K) := h ▸ cr_sortT3 hr
local macro_rules | `(tactic| fail "rd1") => `(tactic| first
  | refine ⟨_, rfl, ?_⟩
  | refine ⟨_, _, rfl, rfl, ?_⟩
  | refine ⟨rfl, ?_⟩
  | refine ⟨_, _, rfl, ?_⟩
  | refine ⟨_, _, _, rfl, ?_⟩
  | fail)
local macro_rules | `(tactic| fail "rd") => `(tactic| repeat (fail "rd1"))
local macro_rules | `(tactic| fail "nn") => `(tactic| first
  | with_reducible assumption
  | (apply lkn; fail "ne"; fail "nn")
  | (apply none_same; with_reducible assumption; fail "sm"))
local macro_rules | `(tactic| fail "ne") => `(tactic| first
  | with_reducible assumption
  | exact (old_ne (by with_reducible assumption) (by with_reducible assumption)).1
  | exact (old_ne (by with_reducible assumption) (by with_reducible assumption)).2
  | (apply ne_new1; with_reducible assumption; fail "lk")
  | (apply ne_new2; with_reducible assumption; fail "lk"))
local macro_rules | `(tactic| fail "lk") => `(tactic| first
  | with_reducible assumption
  | exact upd_same
  | (apply lkn; fail "ne"; fail "lk")
  | (apply same_upd; with_reducible assumption; fail "lk"))
local macro_rules | `(tactic| fail "sm") => `(tactic| first
  | with_reducible assumption
  | exact Same.refl _
  | (apply same_mut; fail "sm"; fail "nn")
  | (apply trans_same; with_reducible assumption; fail "sm"))
local macro_rules | `(tactic| fail "sl") => `(tactic| first
  | with_reducible assumption
  | (apply lst_same; with_reducible assumption; fail "sm")
  | (apply SqL.of; fail "lk")
  | (apply lst_new; fail "nn"; fail "sl")
  | (apply lst_updn; fail "ne"; fail "sl")
  | (apply lst_trans; with_reducible assumption; fail "sl"))
local macro_rules | `(tactic| fail "st") => `(tactic| first
  | with_reducible assumption
  | (apply tup_same; with_reducible assumption; fail "sm")
  | (apply SqT.of; fail "lk")
  | (apply tup_new; fail "nn"; fail "st")
  | (apply tup_upd; fail "lk"; fail "st")
  | (apply tup_trans; with_reducible assumption; fail "st")
  | (apply tup_updI; fail "lk"; fail "st"))
local macro_rules | `(tactic| fail "nw") => `(tactic| (repeat (refine nwI (fun _ _ => ?_))); refine fun _ => ?_)
local macro_rules | `(tactic| fail "ln") => `(tactic| first
  | exact lenLt (Nat.le_of_ble_eq_true rfl)
  | exact Nat.le_of_ble_eq_true rfl)
local macro_rules | `(tactic| fail "un") => `(tactic| first
  | apply un_lcR
  | (refine un_lc2 2 ?_)
  | (apply un_lcL; fail "sl")
  | (apply un_lcT; fail "st")
  | (apply un_lcZ; fail "sl")
  | (apply un_lcZT; fail "st")
  | (apply un_lcZM; fail "sl"))
local macro_rules | `(tactic| fail "uf") => `(tactic| first
  | apply un_forR
  | (apply un_forL; fail "sl")
  | (apply un_forT; fail "st")
  | (apply un_forZ; fail "sl")
  | (apply un_forZT; fail "st")
  | (apply un_forZM; fail "sl")
  | (apply un_forE; fail "st"))
local macro_rules | `(tactic| fail "ns") => `(tactic| try simp only [wipe, L2.start, List.set_cons_zero, List.set_cons_succ, List.map_cons, List.map_nil, List.length_cons, List.length_nil, List.replicate_succ, List.replicate_zero, List.cons_append, List.nil_append, Nat.reduceAdd, Nat.reduceSub])
local macro_rules | `(tactic| fail "da") => `(tactic| first
  | exact DpAll.nil
  | (apply DpAll.cons; (first | exact Dp.int _ | (apply Dp.tup; fail "st"; fail "da") | (apply Dp.lst; fail "sl"; fail "da") | exact Dp.bl _ | exact Dp.str _); fail "da"))
local macro_rules | `(tactic| fail "dp") => `(tactic| first
  | exact Dp.int _
  | (apply Dp.tup; fail "st"; fail "da")
  | (apply Dp.lst; fail "sl"; fail "da"))
local macro_rules | `(tactic| fail "so") => `(tactic| first
  | (apply sx_upd; fail "so")
  | (apply sx_mut; fail "so"; fail "nn")
  | (apply sx_of; fail "sm"))
local macro_rules | `(tactic| fail "lg") => `(tactic| (refine PyProof.Rows.int_text_len_1921 (lg_small ?_); omega))
local macro_rules | `(tactic| fail "sx1") => `(tactic| (conv => whnf); first
  | (refine fun _ => ?_; fail "nw"; first | fail "un" | skip)
  | (refine fun _ => ?_)
  | (refine wipe_1 (by decide) ?_; fail "ns")
  | (refine wipe_2 (by decide) (by decide) ?_; fail "ns")
  | (refine ⟨_, rfl, ?_⟩)
  | (refine ⟨rfl, ?_⟩)
  | (refine ⟨_, _, rfl, rfl, ?_⟩)
  | (refine ⟨_, _, rfl, ?_⟩)
  | (refine ⟨_, _, _, rfl, ?_⟩)
  | apply un_forR
  | (apply un_forL; fail "sl")
  | (apply un_forT; fail "st")
  | (apply un_forZ; fail "sl")
  | (apply un_forZT; fail "st")
  | (apply un_forZM; fail "sl")
  | (apply un_forE; fail "st")
  | apply un_inR
  | (apply tyI; fail "sl")
  | (apply dpI; fail "dp"; fail "dp"; rfl; rfl)
  | (apply gtI; fail "st"; rfl)
  | apply isi_ii
  | apply isi_ib
  | (apply isi_tt; fail "st")
  | refine divN1 ?_
  | (apply nx_range; exact Nat.le_of_ble_eq_true rfl)
  | (apply nx_list; fail "sl"; rfl)
  | (apply nx_tup; fail "st"; rfl)
  | (apply nx_zip; fail "sl"; fail "sl"; rfl; rfl)
  | (apply nx_zipT; fail "st"; fail "st"; rfl; rfl)
  | (apply nx_zipM; fail "sl"; fail "st"; rfl; rfl)
  | (apply nx_enumT; fail "st"; rfl)
  | (apply st_range; fail "ln")
  | (apply st_list; fail "sl"; fail "ln")
  | (apply st_tup; fail "st"; fail "ln")
  | (apply st_zip; fail "sl"; fail "sl"; fail "ln")
  | (apply st_zipT; fail "st"; fail "st"; fail "ln")
  | (apply st_zipM; fail "sl"; fail "st"; rfl; rfl)
  | (apply st_enumT; fail "st"; rfl)
  | (apply mulR; with_reducible assumption)
  | (apply mulL; with_reducible assumption)
  | (apply accI; fail "lk"; fail "ln")
  | (apply apdI; fail "lk"; fail "ln")
  | (apply ixLI; fail "sl"; rfl)
  | (apply ixTI; fail "st"; rfl)
  | (apply setI; fail "lk"; rfl)
  | (apply slLI; fail "sl")
  | (apply sum2I; fail "sl")
  | (apply rep2I; fail "lk"; exact Nat.le_of_ble_eq_true rfl)
  | (refine And.intro (lg_small ?_) ?_; omega)
  | (apply joinI3; fail "sl"; fail "lg"; fail "lg"; fail "lg"; decide)
  | (apply enI; fail "st")
  | (apply enL; fail "sl")
  | (apply ppL; fail "sl")
  | (apply ppT; fail "st")
  | (apply pqL; fail "sl")
  | (apply pqT; fail "st")
  | (apply pzL; fail "sl"; fail "sl")
  | (apply pzT; fail "st"; fail "st")
  | (apply pzM; fail "sl"; fail "st")
  | (refine Or.inl ⟨_, rfl, ?_⟩)
  | (refine Or.inr ⟨_, rfl, ?_⟩)
  | (apply pxL; fail "sl")
  | (apply pxT; fail "st")
  | (refine iteTI rfl ?_)
  | (refine iteFI Bool.false_ne_true ?_)
  | (refine iteTI ?_ ?_; (simp [*]; done))
  | (refine iteFI ?_ ?_; (simp [*]; done))
  | (refine And.intro ?_ ?_; first | decide | (simp only [List.length_append, List.length_cons, List.length_nil]; decide)))
local macro_rules | `(tactic| fail "sx") => `(tactic| repeat (fail "sx1"))
local macro_rules | `(tactic| fail "tx1") => `(tactic| (conv => whnf); first
  | (refine fun _ => ?_; fail "nw")
  | (refine fun _ => ?_)
  | (refine wipe_1 (by decide) ?_; fail "ns")
  | (refine wipe_2 (by decide) (by decide) ?_; fail "ns")
  | (refine ⟨_, rfl, ?_⟩)
  | (refine ⟨rfl, ?_⟩)
  | (refine ⟨_, _, rfl, rfl, ?_⟩)
  | (refine ⟨_, _, rfl, ?_⟩)
  | (refine ⟨_, _, _, rfl, ?_⟩)
  | apply un_forR
  | (apply un_forL; fail "sl")
  | (apply un_forT; fail "st")
  | (apply un_forZ; fail "sl")
  | (apply un_forZT; fail "st")
  | (apply un_forZM; fail "sl")
  | (apply un_forE; fail "st")
  | apply un_inR
  | (apply tyI; fail "sl")
  | (apply dpI; fail "dp"; fail "dp"; rfl; rfl)
  | (apply gtI; fail "st"; rfl)
  | apply isi_ii
  | apply isi_ib
  | (apply isi_tt; fail "st")
  | refine divN1 ?_
  | (apply nx_range; exact Nat.le_of_ble_eq_true rfl)
  | (apply nx_list; fail "sl"; rfl)
  | (apply nx_tup; fail "st"; rfl)
  | (apply nx_zip; fail "sl"; fail "sl"; rfl; rfl)
  | (apply nx_zipT; fail "st"; fail "st"; rfl; rfl)
  | (apply nx_zipM; fail "sl"; fail "st"; rfl; rfl)
  | (apply nx_enumT; fail "st"; rfl)
  | (apply st_range; fail "ln")
  | (apply st_list; fail "sl"; fail "ln")
  | (apply st_tup; fail "st"; fail "ln")
  | (apply st_zip; fail "sl"; fail "sl"; fail "ln")
  | (apply st_zipT; fail "st"; fail "st"; fail "ln")
  | (apply st_zipM; fail "sl"; fail "st"; rfl; rfl)
  | (apply st_enumT; fail "st"; rfl)
  | (apply mulR; with_reducible assumption)
  | (apply mulL; with_reducible assumption)
  | (apply accI; fail "lk"; fail "ln")
  | (apply apdI; fail "lk"; fail "ln")
  | (apply ixLI; fail "sl"; rfl)
  | (apply ixTI; fail "st"; rfl)
  | (apply setI; fail "lk"; rfl)
  | (apply slLI; fail "sl")
  | (apply sum2I; fail "sl")
  | (apply rep2I; fail "lk"; exact Nat.le_of_ble_eq_true rfl)
  | (refine And.intro (lg_small ?_) ?_; omega)
  | (apply joinI3; fail "sl"; fail "lg"; fail "lg"; fail "lg"; decide)
  | (apply enI; fail "st")
  | (apply enL; fail "sl")
  | (apply ppL; fail "sl")
  | (apply ppT; fail "st")
  | (apply pqL; fail "sl")
  | (apply pqT; fail "st")
  | (apply pzL; fail "sl"; fail "sl")
  | (apply pzT; fail "st"; fail "st")
  | (apply pzM; fail "sl"; fail "st")
  | (refine Or.inl ⟨_, rfl, ?_⟩)
  | (refine Or.inr ⟨_, rfl, ?_⟩)
  | (apply pxL; fail "sl")
  | (apply pxT; fail "st")
  | (refine iteTI rfl ?_)
  | (refine iteFI Bool.false_ne_true ?_)
  | (refine iteTI ?_ ?_; (simp [*]; done))
  | (refine iteFI ?_ ?_; (simp [*]; done))
  | (refine And.intro ?_ ?_; first | decide | (simp only [List.length_append, List.length_cons, List.length_nil]; decide)))
local macro_rules | `(tactic| fail "tx") => `(tactic| repeat (fail "tx1"))
local macro_rules | `(tactic| fail "om") => `(tactic| first
  | omega
  | (dsimp only; omega)
  | (split <;> omega)
  | (dsimp only; split <;> omega))
local macro_rules | `(tactic| fail "bx1") => `(tactic| first
  | (refine iteD (fun _ => ?_) (fun _ => ?_))
  | (refine iteN (fun _ => ?_) (fun _ => ?_))
  | (refine iteE (fun _ => ?_) (fun _ => ?_))
  | (refine iteTI rfl ?_)
  | (refine iteFI Bool.false_ne_true ?_)
  | (refine ⟨_, rfl, ?_⟩)
  | (refine ⟨_, _, rfl, rfl, ?_⟩)
  | (refine ⟨rfl, ?_⟩)
  | (refine ⟨_, _, rfl, ?_⟩)
  | (apply mulR; with_reducible assumption)
  | (apply mulL; with_reducible assumption)
  | (apply mulL; refine ⟨?_, ?_⟩ <;> fail "om")
  | (apply powI; fail "om"))
local macro_rules | `(tactic| fail "bx") => `(tactic| repeat' (fail "bx1"))

/-- the law's own words: the reduced forms of a discriminant -/
def arG (D : Int) (a b c : Int) (t : T3) : Bool := (decide (0 < t.1) || decide (0 < D)) && decide (Int.gcd ((Int.gcd a b : Nat) : Int) c = 1) && redL t
def arC (D a b : Int) : List T3 := if (b * b - D) % (4 * a) = 0 then [(a, b, (b * b - D).fdiv (4 * a)), (-a, b, -((b * b - D).fdiv (4 * a)))].filter (arG D a b ((b * b - D).fdiv (4 * a))) else []
def arB (D a lo : Int) (k : Nat) : List T3 := (List.range k).flatMap fun (j : Nat) => arC D a (lo + (j : Int))
def arTop (D : Int) : Int := isq (absI D) + 1
def arLo (D a : Int) : Int := if D < 0 then -a else 1
def arN (D a : Int) : Nat := if D < 0 then (2 * a + 1).toNat else (arTop D).toNat
def arA (D : Int) (k : Nat) : List T3 := (List.range k).flatMap fun (i : Nat) => arB D (1 + (i : Int)) (arLo D (1 + (i : Int))) (arN D (1 + (i : Int)))
def arL (D : Int) : List T3 := arA D (arTop D).toNat
theorem arB_succ (D a lo : Int) (k : Nat) : arB D a lo (k + 1) = arB D a lo k ++ arC D a (lo + (k : Int)) := by
  unfold arB
  rw [List.range_succ, List.flatMap_append]
  simp
theorem arA_succ (D : Int) (k : Nat) : arA D (k + 1) = arA D k ++ arB D (1 + (k : Int)) (arLo D (1 + (k : Int))) (arN D (1 + (k : Int))) := by
  unfold arA
  rw [List.range_succ, List.flatMap_append]
  simp
theorem arC_len (D a b : Int) : (arC D a b).length ≤ 2 := by
  unfold arC
  split
  · exact Nat.le_trans (List.length_filter_le _ _) (Nat.le_refl _)
  · exact Nat.zero_le _
theorem arB_len (D a lo : Int) : ∀ k, (arB D a lo k).length ≤ 2 * k
  | 0 => Nat.le_refl _
  | k + 1 => by
    rw [arB_succ, List.length_append]
    have := arB_len D a lo k
    have := arC_len D a (lo + (k : Int))
    omega
theorem arA_len (D : Int) (h : ∀ i : Nat, i < 32 → arN D (1 + (i : Int)) ≤ 100) : ∀ k, k ≤ 32 → (arA D k).length ≤ 200 * k
  | 0, _ => Nat.le_refl _
  | k + 1, hk => by
    rw [arA_succ, List.length_append]
    have := arA_len D h k (by omega)
    have := arB_len D (1 + (k : Int)) (arLo D (1 + (k : Int))) (arN D (1 + (k : Int)))
    have := h k (by omega)
    omega
section
variable {P : Program} {w : World} {K : PySem.W.Frag} {mg : Str → Option Value} {base : Heap} {f : Addr} {fd : FuncData} {C : Addr}
structure spAR (K : PySem.W.Frag) (vs : List V) (H : Hp) (Q : VK) (E : XK) : Prop where
  ex : ∃ D, vs = [.int D] ∧ D ≠ 0 ∧ D.natAbs ≤ 400 ∧ ∀ H' q bs, Same H H' → H q = none → H' q = some (.lst (rf bs)) → TupsAt K H' bs → (bs.map (·.2)).Pairwise (fun x y => leT x y = true) → (∀ x, x ∈ bs.map (·.2) ↔ x ∈ arL D) → bs.length ≤ 6400 → Q (.ref q) H'
theorem ok_law_all_reduced (T : Tx K mg) (C_law_root : Cal P w K mg base 1 "_law_root" ps_law_root spRoot) (C_law_gcd : Cal P w K mg base 1 "_law_gcd" ps_law_gcd spGcd) (C_law_reduced : Cal P w K mg base 2 "_law_reduced" ps_law_reduced (spLr K)) (F : FnP K "_law_all_reduced" s_law_all_reduced f fd) :
    FnOk P w K mg base CX0 3 f fd ps_law_all_reduced (spAR K) := by
  refine F.ok sc_law_all_reduced (fun vs H Q E h => ?_) (fun cdv A outer s H vs Q E hr h => ?_)
  · obtain ⟨D, rfl, _⟩ := h
    rfl
  · obtain ⟨D, rfl, D0, D1, k⟩ := h
    refine ⟨_, PSs.nox (pss_cons (ps_set (i := 1) sc_law_all_reduced.nd rfl (Or.inl rfl) (pe_lst pa_nil))
    (pss_cons (ps_set (i := 2) sc_law_all_reduced.nd rfl (Or.inl rfl) (pe_op op_add (pe_cal C_law_root hr (pa_cons (pe_callB call_abs (by rfl) T.b_abs (by decide +kernel) (pa_cons (pv 0) pa_nil)) pa_nil)) pe_int))
    (pss_cons (ps_for PassesOwn.never rfl (pi_range2 (by rfl) T.b_range (pa_cons pe_int (pa_cons (pe_op op_add (pv 2) pe_int) pa_nil))) (pg_name (i := 3) sc_law_all_reduced.nd rfl (by first | exact Or.inl rfl | exact Or.inr rfl))
    (pss_one (ps_for PassesOwn.never rfl (pi_range2 (by rfl) T.b_range (pa_cons (pe_ifExp (pt_cmpR op_lt (pv 0) pe_int (nomark _)) (pe_un un_neg (pv 3)) pe_int) (pa_cons (pe_op op_add (pe_ifExp (pt_cmpR op_lt (pv 0) pe_int (nomark _)) (pv 3) (pv 2)) pe_int) pa_nil))) (pg_name (i := 4) sc_law_all_reduced.nd rfl (by first | exact Or.inl rfl | exact Or.inr rfl))
    (pss_one (ps_if (pt_cmpR op_eq (pe_op op_mod (pe_callTy call_int1 (by rfl) T.b_int (by decide +kernel) (pa_cons (pe_op op_sub (pe_op op_mul (pv 4) (pv 4)) (pv 0)) pa_nil)) (pe_op op_mul pe_int (pv 3))) pe_int (nomark _))
    (pss_cons (ps_set (i := 5) sc_law_all_reduced.nd rfl (Or.inl rfl) (pe_op op_fdivN (pe_op op_sub (pe_op op_mul (pv 4) (pv 4)) (pv 0)) (pe_op op_mul pe_int (pv 3))))
    (pss_one (ps_for PassesOwn.never rfl (k_pl (K := K) rfl (pe_lst (pa_cons (pe_tup (pa_cons (pv 3) (pa_cons (pv 4) (pa_cons (pv 5) pa_nil)))) (pa_cons (pe_tup (pa_cons (pe_un un_neg (pv 3)) (pa_cons (pv 4) (pa_cons (pe_un un_neg (pv 5)) pa_nil)))) pa_nil)))) (pg_name (i := 6) sc_law_all_reduced.nd rfl (by first | exact Or.inl rfl | exact Or.inr rfl))
    (pss_cons (ps_set (i := 7) sc_law_all_reduced.nd rfl (Or.inl rfl) (pe_or (pe_cmpR op_gt (pe_ix (k_ixt (K := K) rfl) (pv 6) pe_int (fun _ _ => rfl)) pe_int (nomark _)) (pe_one (pe_cmpR op_gt (pv 0) pe_int (nomark _)))))
    (pss_one (ps_if (PW.pt (pw_and (pt_val (pv 7)) (pw_and (pt_cmpR op_eq (pe_cal C_law_gcd hr (pa_cons (pe_cal C_law_gcd hr (pa_cons (pv 3) (pa_cons (pv 4) pa_nil))) (pa_cons (pv 5) pa_nil))) pe_int (nomark _)) (pw_and1 (pt_val (pe_cal C_law_reduced hr (pa_cons (pv 6) pa_nil)))))))
    (pss_one (ps_expr (pe_bm PySem.F.plainAttrs_list PySem.F.slot_list_append PySem.F.type_list_append mt_append (pv 1) (pa_cons (pv 6) pa_nil))))
    pss_nil))))))
    pss_nil)))))
    (pss_one (ps_ret (pe_callB (k_sortT3 (K := K) rfl (hu64 hr)) (by rfl) T.b_sorted (by decide +kernel) (pa_cons (pv 1) pa_nil))))))), ?_⟩
    fail "rd"
    refine ⟨by decide, fun q hq => ?_⟩
    have ea : (if D < 0 then -D else D) = absI D := rfl
    have ha : 0 ≤ absI D ∧ absI D ≤ 400 := by unfold absI; constructor <;> split <;> omega
    fail "rd"
    rw [ea]
    refine ⟨by omega, by omega, fun H1 s1 => ?_⟩
    fail "rd"
    have w0 := isq_nn (absI D)
    have w1 : isq (absI D) ≤ 20 := by
      have q1 := (isq_ok (v := absI D) (by omega) (by omega)).1
      refine Int.not_lt.mp fun h => ?_
      have : 21 * 21 ≤ isq (absI D) * isq (absI D) := Int.mul_le_mul h h (by omega) (by omega)
      omega
    refine ⟨⟨by decide, by decide, by omega, by omega⟩, ?_⟩
    rw [show (isq (absI D) + 1 + 1 - 1).toNat = (arTop D).toNat by unfold arTop; omega]
    have eTop : isq (absI D) + 1 = arTop D := rfl
    have hTop : 1 ≤ arTop D ∧ arTop D ≤ 21 := by unfold arTop; omega
    have q0 : H q = none := hq
    refine for_range (lo := 1) (n := (arTop D).toNat) (fun i σ H' => ∃ o3 o4 o5 o6 o7 bs, σ = [some (.int D), some (.ref q), some (.int (arTop D)), o3, o4, o5, o6, o7] ∧ Same H H' ∧ H' q = some (.lst (rf bs)) ∧ TupsAt K H' bs ∧ bs.map (·.2) = arA D i)
      ⟨none, none, none, none, none, [], rfl, (same_new hq).trans s1, s1 _ _ upd_same, fun b hb => (nomatch hb), rfl⟩ (fun i σ H' hi hI => ?_) (fun σ H' hI => ?_)
    · obtain ⟨o3, o4, o5, o6, o7, bs, rfl, sa, hq', hT, hbs⟩ := hI
      have hal : (arA D i).length ≤ 200 * i := arA_len D (fun j hj => by unfold arN; split <;> omega) i (by omega)
      have hai : 1 ≤ (1 : Int) + (i : Int) ∧ (1 : Int) + (i : Int) ≤ 21 := by omega
      rw [show arA D (i + 1) = arA D i ++ arB D (1 + (i : Int)) (arLo D (1 + (i : Int))) (arN D (1 + (i : Int))) from arA_succ D i]
      generalize arA D i = pre at *
      generalize (1 : Int) + (i : Int) = a at *
      have ma : Sm a := ⟨by omega, by omega⟩
      have m4 : Sm 4 := ⟨by decide, by decide⟩
      rcases Int.lt_or_le D 0 with hD | hD
      · have eLo : arLo D a = -a := if_pos hD
        have eN : arN D a = (2 * a + 1).toNat := if_pos hD
        rw [eLo, eN]
        fail "rd"
        refine iteTI (decide_eq_true hD) ?_
        fail "rd"
        refine iteTI (decide_eq_true hD) ?_
        fail "rd"
        refine ⟨⟨by omega, by omega, by omega, by omega⟩, ?_⟩
        rw [show (a + 1 - (-a)).toNat = (2 * a + 1).toNat by omega]
        refine for_range (lo := -a) (n := (2 * a + 1).toNat) (fun j σ H' => ∃ o4 o5 o6 o7 bs, σ = [some (.int D), some (.ref q), some (.int (arTop D)), some (.int a), o4, o5, o6, o7] ∧ Same H H' ∧ H' q = some (.lst (rf bs)) ∧ TupsAt K H' bs ∧ bs.map (·.2) = pre ++ arB D a (-a) j)
          ⟨o4, o5, o6, o7, bs, rfl, sa, hq', hT, by rw [hbs]; exact (List.append_nil _).symm⟩ (fun j σ H' hj hI => ?_) (fun σ H' hI => ?_)
        · obtain ⟨o4, o5, o6, o7, bs, rfl, sa, hq', hT, hbs⟩ := hI
          have hbl := arB_len D a (-a) j
          rw [arB_succ]
          have hbb : -21 ≤ -a + (j : Int) ∧ -a + (j : Int) ≤ 22 := by omega
          have hpr2 : (pre ++ arB D a (-a) j).length ≤ 6300 := by rw [List.length_append]; omega
          rw [← List.append_assoc]
          generalize pre ++ arB D a (-a) j = pr2 at *
          generalize -a + (j : Int) = b at *
          have mb : Sm b := ⟨by omega, by omega⟩
          have bb1 : b * b ≤ 484 := by
            have : 0 ≤ (22 - b) * (22 + b) := Int.mul_nonneg (by omega) (by omega)
            have e : (22 - b) * (22 + b) = 484 - b * b := by grind
            omega
          have bb0 : 0 ≤ b * b := by
            rcases Int.le_total 0 b with h | h
            · exact Int.mul_nonneg h h
            · exact Int.mul_nonneg_of_nonpos_of_nonpos h h
          fail "sx"
          refine ⟨by omega, ?_⟩
          fail "rd"
          refine iteE (fun h1 => ?_) (fun h1 => ?_)
          · have earC : arC D a b = [(a, b, (b * b - D).fdiv (4 * a)), (-a, b, -((b * b - D).fdiv (4 * a)))].filter (arG D a b ((b * b - D).fdiv (4 * a))) := if_pos h1
            rw [earC]
            have hdv := Int.natAbs_fdiv_le_natAbs (b * b - D) (4 * a)
            fail "sx"
            refine ⟨⟨by omega, by omega⟩, ?_⟩
            dsimp only
            generalize (b * b - D).fdiv (4 * a) = c at *
            have mc : Sm c := ⟨by omega, by omega⟩
            fail "rd"
            refine ⟨by show 3 ≤ sizeLine; decide, fun T1 t1 => ?_⟩
            fail "rd"
            refine ⟨by show 3 ≤ sizeLine; decide, fun T2 t2 => ?_⟩
            fail "rd"
            refine ⟨by show 2 ≤ sizeLine; decide, fun L tl => ?_⟩
            fail "rd"
            refine ⟨⟨_, SqL.of upd_same⟩, ?_⟩
            have n1 := (nw t2)
            have sL := (same_new t1).trans ((same_new t2).trans (same_new (o := .lst [.ref T1, .ref T2]) tl))
            refine for_list (K := K) (a := L) (xs := [.ref T1, .ref T2]) (fun m σ H' => ∃ o6 o7 bs, σ = [some (.int D), some (.ref q), some (.int (arTop D)), some (.int a), some (.int b), some (.int c), o6, o7] ∧ Same H H' ∧ H' q = some (.lst (rf bs)) ∧ TupsAt K H' bs ∧
                bs.map (·.2) = pr2 ++ (([(a, b, c), (-a, b, -c)] : List T3).take m).filter (arG D a b c) ∧ T3At K H' T1 (a, b, c) ∧ T3At K H' T2 (-a, b, -c) ∧ SqL K H' L [.ref T1, .ref T2] ∧ q ≠ L)
              ⟨o6, o7, bs, rfl, sa.trans sL, sL _ _ hq', tups_same hT sL, by rw [hbs]; exact (List.append_nil _).symm, SqT.of ((same_new tl) _ _ ((same_new t2) _ _ upd_same)), SqT.of ((same_new tl) _ _ upd_same), SqL.of upd_same, fun e => by rw [← e] at tl; have := (nw (nw tl).2).2; rw [hq'] at this; cases this⟩
              (fun m σ H' _ hI => by obtain ⟨_, _, _, _, _, _, _, _, _, _, g, _⟩ := hI; exact g) (fun m x σ H' hx hI => ?_) (fun σ H' hI => ?_)
            · clear hT hq' sa hbs

              obtain ⟨o6, o7, bs, rfl, sa, hq', hT, hbs, hT1, hT2, hL, hqL⟩ := hI
              have hfl : ((([(a, b, c), (-a, b, -c)] : List T3).take m).filter (arG D a b c)).length ≤ 2 := Nat.le_trans (List.length_filter_le _ _) (by rw [List.length_take]; exact Nat.min_le_right _ _)
              have hbl3 : bs.length ≤ 6400 := by
                have := congrArg List.length hbs
                rw [List.length_map, List.length_append] at this
                omega
              obtain ⟨p, t, rfl, hp, hSm, htk⟩ : ∃ p t, x = .ref p ∧ T3At K H' p t ∧ Sml t ∧ (([(a, b, c), (-a, b, -c)] : List T3).take (m + 1)).filter (arG D a b c) = (([(a, b, c), (-a, b, -c)] : List T3).take m).filter (arG D a b c) ++ (if arG D a b c t = true then [t] else []) := by
                match m, hx with
                | 0, hx => exact ⟨T1, (a, b, c), (Option.some.inj hx).symm, hT1, ⟨by show a.natAbs ≤ 100000; omega, by show b.natAbs ≤ 100000; omega, by show c.natAbs ≤ 100000; omega⟩, by simp [List.filter_cons]⟩
                | 1, hx => exact ⟨T2, (-a, b, -c), (Option.some.inj hx).symm, hT2, ⟨by show (-a).natAbs ≤ 100000; omega, by show b.natAbs ≤ 100000; omega, by show (-c).natAbs ≤ 100000; omega⟩, by simp [List.filter_cons]; split <;> split <;> simp_all⟩
              rw [htk, ← List.append_assoc]
              generalize pr2 ++ (([(a, b, c), (-a, b, -c)] : List T3).take m).filter (arG D a b c) = pr3 at *
              have fin : arG D a b c t = true → ∀ H3, Same H' H3 → ∀ (u6 u7 : Option V), ∃ o6 o7 bs', [some (.int D), some (.ref q), some (.int (arTop D)), some (.int a), some (.int b), some (.int c), u6, u7] = [some (.int D), some (.ref q), some (.int (arTop D)), some (.int a), some (.int b), some (.int c), o6, o7] ∧ Same H (upd H3 q (.lst (rf bs ++ [.ref p]))) ∧
                  upd H3 q (.lst (rf bs ++ [.ref p])) q = some (.lst (rf bs')) ∧ TupsAt K (upd H3 q (.lst (rf bs ++ [.ref p]))) bs' ∧ bs'.map (·.2) = pr3 ++ (if arG D a b c t = true then [t] else []) ∧ T3At K (upd H3 q (.lst (rf bs ++ [.ref p]))) T1 (a, b, c) ∧ T3At K (upd H3 q (.lst (rf bs ++ [.ref p]))) T2 (-a, b, -c) ∧ SqL K (upd H3 q (.lst (rf bs ++ [.ref p]))) L [.ref T1, .ref T2] ∧ q ≠ L := fun hG H3 s3 u6 u7 => by
                have hq3 := s3 _ _ hq'
                refine ⟨u6, u7, bs ++ [(p, t)], rfl, same_mut (sa.trans s3) q0, by rw [upd_same, rf_add], tups_add (tups_upd hq3 (tups_same hT s3)) (tup_upd hq3 (same_tup s3 hp)), ?_, tup_upd hq3 (same_tup s3 hT1), tup_upd hq3 (same_tup s3 hT2), lst_updn (fun e => hqL e.symm) (lst_same hL s3), hqL⟩
                rw [List.map_append, hbs, if_pos hG]
                rfl
              have non : arG D a b c t = false → ∀ H3, Same H' H3 → ∀ (u6 u7 : Option V), ∃ o6 o7 bs', [some (.int D), some (.ref q), some (.int (arTop D)), some (.int a), some (.int b), some (.int c), u6, u7] = [some (.int D), some (.ref q), some (.int (arTop D)), some (.int a), some (.int b), some (.int c), o6, o7] ∧ Same H H3 ∧
                  H3 q = some (.lst (rf bs')) ∧ TupsAt K H3 bs' ∧ bs'.map (·.2) = pr3 ++ (if arG D a b c t = true then [t] else []) ∧ T3At K H3 T1 (a, b, c) ∧ T3At K H3 T2 (-a, b, -c) ∧ SqL K H3 L [.ref T1, .ref T2] ∧ q ≠ L := fun hG H3 s3 u6 u7 => by
                refine ⟨u6, u7, bs, rfl, sa.trans s3, s3 _ _ hq', tups_same hT s3, ?_, same_tup s3 hT1, same_tup s3 hT2, lst_same hL s3, hqL⟩
                rw [hbs, if_neg (by rw [hG]; decide), List.append_nil]
              fail "rd"
              refine ⟨p, _, 0, _, rfl, rfl, hp, at0, ?_⟩
              fail "rd"
              refine iteD (fun h2 => ?_) (fun h2 => ?_)
              · have hg : 0 < t.1 ∨ 0 < D := .inl h2
                fail "rd"
                refine fun H2 s2 => ?_
                fail "rd"
                refine fun H3 s3 => ?_
                have sT : Same H' H3 := s2.trans s3
                have hq3 := sT _ _ hq'
                fail "rd"
                refine iteE (fun h3 => ?_) (fun h3 => ?_)
                · fail "rd"
                  refine ⟨⟨p, t, rfl, same_tup sT hp, hSm, ?_⟩⟩
                  fail "rd"
                  refine iteB (fun h4 => ?_) (fun h4 => ?_)
                  · fail "rd"
                    refine ⟨.inl ⟨rfl, _, SqL.of hq3⟩, ?_⟩
                    fail "rd"
                    refine ⟨_, _, _, rfl, rfl, hq3, by rw [List.length_map]; exact Nat.lt_of_le_of_lt (show bs.length ≤ 6400 by omega) (by decide), ?_⟩
                    exact fin (by unfold arG; rw [Bool.and_eq_true_iff, Bool.and_eq_true_iff, Bool.or_eq_true_iff, decide_eq_true_iff, decide_eq_true_iff, decide_eq_true_iff]; exact ⟨⟨hg, by omega⟩, h4⟩) H3 sT _ _
                  · fail "rd"
                    exact non (by unfold arG; rw [h4, Bool.and_false]) H3 sT _ _
                · fail "rd"
                  exact non (by unfold arG; rw [show decide (Int.gcd ((Int.gcd a b : Nat) : Int) c = 1) = false from decide_eq_false (fun e => h3 (by rw [e]; rfl)), Bool.and_false, Bool.false_and]) H3 sT _ _
              · fail "rd"
                refine iteB (fun h5 => ?_) (fun h5 => ?_)
                · have hg : 0 < t.1 ∨ 0 < D := .inr (of_decide_eq_true h5)
                  fail "rd"
                  refine fun H2 s2 => ?_
                  fail "rd"
                  refine fun H3 s3 => ?_
                  have sT : Same H' H3 := s2.trans s3
                  have hq3 := sT _ _ hq'
                  fail "rd"
                  refine iteE (fun h3 => ?_) (fun h3 => ?_)
                  · fail "rd"
                    refine ⟨⟨p, t, rfl, same_tup sT hp, hSm, ?_⟩⟩
                    fail "rd"
                    refine iteB (fun h4 => ?_) (fun h4 => ?_)
                    · fail "rd"
                      refine ⟨.inl ⟨rfl, _, SqL.of hq3⟩, ?_⟩
                      fail "rd"
                      refine ⟨_, _, _, rfl, rfl, hq3, by rw [List.length_map]; exact Nat.lt_of_le_of_lt (show bs.length ≤ 6400 by omega) (by decide), ?_⟩
                      exact fin (by unfold arG; rw [Bool.and_eq_true_iff, Bool.and_eq_true_iff, Bool.or_eq_true_iff, decide_eq_true_iff, decide_eq_true_iff, decide_eq_true_iff]; exact ⟨⟨hg, by omega⟩, h4⟩) H3 sT _ _
                    · fail "rd"
                      exact non (by unfold arG; rw [h4, Bool.and_false]) H3 sT _ _
                  · fail "rd"
                    exact non (by unfold arG; rw [show decide (Int.gcd ((Int.gcd a b : Nat) : Int) c = 1) = false from decide_eq_false (fun e => h3 (by rw [e]; rfl)), Bool.and_false, Bool.false_and]) H3 sT _ _
                · fail "rd"
                  exact non (by unfold arG; rw [decide_eq_false h2, h5]; rfl) H' (Same.refl _) _ _
            · obtain ⟨o6, o7, bs, rfl, sa, hq', hT, hbs, _⟩ := hI
              exact ⟨_, _, _, _, bs, rfl, sa, hq', hT, hbs⟩
          · have earC : arC D a b = [] := if_neg h1
            rw [earC, List.append_nil]
            exact ⟨_, _, _, _, bs, rfl, sa, hq', hT, hbs⟩
        · obtain ⟨o4, o5, o6, o7, bs, rfl, sa, hq', hT, hbs⟩ := hI
          exact ⟨_, _, _, _, _, bs, rfl, sa, hq', hT, hbs⟩
      · have eLo : arLo D a = 1 := if_neg (by omega)
        have eN : arN D a = (arTop D).toNat := if_neg (by omega)
        rw [eLo, eN]
        fail "rd"
        refine iteFI (by simp; omega) ?_
        fail "rd"
        refine iteFI (by simp; omega) ?_
        fail "rd"
        refine ⟨⟨by omega, by omega, by omega, by omega⟩, ?_⟩
        rw [show (arTop D + 1 - (1)).toNat = (arTop D).toNat by omega]
        refine for_range (lo := 1) (n := (arTop D).toNat) (fun j σ H' => ∃ o4 o5 o6 o7 bs, σ = [some (.int D), some (.ref q), some (.int (arTop D)), some (.int a), o4, o5, o6, o7] ∧ Same H H' ∧ H' q = some (.lst (rf bs)) ∧ TupsAt K H' bs ∧ bs.map (·.2) = pre ++ arB D a (1) j)
          ⟨o4, o5, o6, o7, bs, rfl, sa, hq', hT, by rw [hbs]; exact (List.append_nil _).symm⟩ (fun j σ H' hj hI => ?_) (fun σ H' hI => ?_)
        · obtain ⟨o4, o5, o6, o7, bs, rfl, sa, hq', hT, hbs⟩ := hI
          have hbl := arB_len D a (1) j
          rw [arB_succ]
          have hbb : -21 ≤ 1 + (j : Int) ∧ 1 + (j : Int) ≤ 22 := by omega
          have hpr2 : (pre ++ arB D a (1) j).length ≤ 6300 := by rw [List.length_append]; omega
          rw [← List.append_assoc]
          generalize pre ++ arB D a (1) j = pr2 at *
          generalize 1 + (j : Int) = b at *
          have mb : Sm b := ⟨by omega, by omega⟩
          have bb1 : b * b ≤ 484 := by
            have : 0 ≤ (22 - b) * (22 + b) := Int.mul_nonneg (by omega) (by omega)
            have e : (22 - b) * (22 + b) = 484 - b * b := by grind
            omega
          have bb0 : 0 ≤ b * b := by
            rcases Int.le_total 0 b with h | h
            · exact Int.mul_nonneg h h
            · exact Int.mul_nonneg_of_nonpos_of_nonpos h h
          fail "sx"
          refine ⟨by omega, ?_⟩
          fail "rd"
          refine iteE (fun h1 => ?_) (fun h1 => ?_)
          · have earC : arC D a b = [(a, b, (b * b - D).fdiv (4 * a)), (-a, b, -((b * b - D).fdiv (4 * a)))].filter (arG D a b ((b * b - D).fdiv (4 * a))) := if_pos h1
            rw [earC]
            have hdv := Int.natAbs_fdiv_le_natAbs (b * b - D) (4 * a)
            fail "sx"
            refine ⟨⟨by omega, by omega⟩, ?_⟩
            dsimp only
            generalize (b * b - D).fdiv (4 * a) = c at *
            have mc : Sm c := ⟨by omega, by omega⟩
            fail "rd"
            refine ⟨by show 3 ≤ sizeLine; decide, fun T1 t1 => ?_⟩
            fail "rd"
            refine ⟨by show 3 ≤ sizeLine; decide, fun T2 t2 => ?_⟩
            fail "rd"
            refine ⟨by show 2 ≤ sizeLine; decide, fun L tl => ?_⟩
            fail "rd"
            refine ⟨⟨_, SqL.of upd_same⟩, ?_⟩
            have n1 := (nw t2)
            have sL := (same_new t1).trans ((same_new t2).trans (same_new (o := .lst [.ref T1, .ref T2]) tl))
            refine for_list (K := K) (a := L) (xs := [.ref T1, .ref T2]) (fun m σ H' => ∃ o6 o7 bs, σ = [some (.int D), some (.ref q), some (.int (arTop D)), some (.int a), some (.int b), some (.int c), o6, o7] ∧ Same H H' ∧ H' q = some (.lst (rf bs)) ∧ TupsAt K H' bs ∧
                bs.map (·.2) = pr2 ++ (([(a, b, c), (-a, b, -c)] : List T3).take m).filter (arG D a b c) ∧ T3At K H' T1 (a, b, c) ∧ T3At K H' T2 (-a, b, -c) ∧ SqL K H' L [.ref T1, .ref T2] ∧ q ≠ L)
              ⟨o6, o7, bs, rfl, sa.trans sL, sL _ _ hq', tups_same hT sL, by rw [hbs]; exact (List.append_nil _).symm, SqT.of ((same_new tl) _ _ ((same_new t2) _ _ upd_same)), SqT.of ((same_new tl) _ _ upd_same), SqL.of upd_same, fun e => by rw [← e] at tl; have := (nw (nw tl).2).2; rw [hq'] at this; cases this⟩
              (fun m σ H' _ hI => by obtain ⟨_, _, _, _, _, _, _, _, _, _, g, _⟩ := hI; exact g) (fun m x σ H' hx hI => ?_) (fun σ H' hI => ?_)
            · clear hT hq' sa hbs

              obtain ⟨o6, o7, bs, rfl, sa, hq', hT, hbs, hT1, hT2, hL, hqL⟩ := hI
              have hfl : ((([(a, b, c), (-a, b, -c)] : List T3).take m).filter (arG D a b c)).length ≤ 2 := Nat.le_trans (List.length_filter_le _ _) (by rw [List.length_take]; exact Nat.min_le_right _ _)
              have hbl3 : bs.length ≤ 6400 := by
                have := congrArg List.length hbs
                rw [List.length_map, List.length_append] at this
                omega
              obtain ⟨p, t, rfl, hp, hSm, htk⟩ : ∃ p t, x = .ref p ∧ T3At K H' p t ∧ Sml t ∧ (([(a, b, c), (-a, b, -c)] : List T3).take (m + 1)).filter (arG D a b c) = (([(a, b, c), (-a, b, -c)] : List T3).take m).filter (arG D a b c) ++ (if arG D a b c t = true then [t] else []) := by
                match m, hx with
                | 0, hx => exact ⟨T1, (a, b, c), (Option.some.inj hx).symm, hT1, ⟨by show a.natAbs ≤ 100000; omega, by show b.natAbs ≤ 100000; omega, by show c.natAbs ≤ 100000; omega⟩, by simp [List.filter_cons]⟩
                | 1, hx => exact ⟨T2, (-a, b, -c), (Option.some.inj hx).symm, hT2, ⟨by show (-a).natAbs ≤ 100000; omega, by show b.natAbs ≤ 100000; omega, by show (-c).natAbs ≤ 100000; omega⟩, by simp [List.filter_cons]; split <;> split <;> simp_all⟩
              rw [htk, ← List.append_assoc]
              generalize pr2 ++ (([(a, b, c), (-a, b, -c)] : List T3).take m).filter (arG D a b c) = pr3 at *
              have fin : arG D a b c t = true → ∀ H3, Same H' H3 → ∀ (u6 u7 : Option V), ∃ o6 o7 bs', [some (.int D), some (.ref q), some (.int (arTop D)), some (.int a), some (.int b), some (.int c), u6, u7] = [some (.int D), some (.ref q), some (.int (arTop D)), some (.int a), some (.int b), some (.int c), o6, o7] ∧ Same H (upd H3 q (.lst (rf bs ++ [.ref p]))) ∧
                  upd H3 q (.lst (rf bs ++ [.ref p])) q = some (.lst (rf bs')) ∧ TupsAt K (upd H3 q (.lst (rf bs ++ [.ref p]))) bs' ∧ bs'.map (·.2) = pr3 ++ (if arG D a b c t = true then [t] else []) ∧ T3At K (upd H3 q (.lst (rf bs ++ [.ref p]))) T1 (a, b, c) ∧ T3At K (upd H3 q (.lst (rf bs ++ [.ref p]))) T2 (-a, b, -c) ∧ SqL K (upd H3 q (.lst (rf bs ++ [.ref p]))) L [.ref T1, .ref T2] ∧ q ≠ L := fun hG H3 s3 u6 u7 => by
                have hq3 := s3 _ _ hq'
                refine ⟨u6, u7, bs ++ [(p, t)], rfl, same_mut (sa.trans s3) q0, by rw [upd_same, rf_add], tups_add (tups_upd hq3 (tups_same hT s3)) (tup_upd hq3 (same_tup s3 hp)), ?_, tup_upd hq3 (same_tup s3 hT1), tup_upd hq3 (same_tup s3 hT2), lst_updn (fun e => hqL e.symm) (lst_same hL s3), hqL⟩
                rw [List.map_append, hbs, if_pos hG]
                rfl
              have non : arG D a b c t = false → ∀ H3, Same H' H3 → ∀ (u6 u7 : Option V), ∃ o6 o7 bs', [some (.int D), some (.ref q), some (.int (arTop D)), some (.int a), some (.int b), some (.int c), u6, u7] = [some (.int D), some (.ref q), some (.int (arTop D)), some (.int a), some (.int b), some (.int c), o6, o7] ∧ Same H H3 ∧
                  H3 q = some (.lst (rf bs')) ∧ TupsAt K H3 bs' ∧ bs'.map (·.2) = pr3 ++ (if arG D a b c t = true then [t] else []) ∧ T3At K H3 T1 (a, b, c) ∧ T3At K H3 T2 (-a, b, -c) ∧ SqL K H3 L [.ref T1, .ref T2] ∧ q ≠ L := fun hG H3 s3 u6 u7 => by
                refine ⟨u6, u7, bs, rfl, sa.trans s3, s3 _ _ hq', tups_same hT s3, ?_, same_tup s3 hT1, same_tup s3 hT2, lst_same hL s3, hqL⟩
                rw [hbs, if_neg (by rw [hG]; decide), List.append_nil]
              fail "rd"
              refine ⟨p, _, 0, _, rfl, rfl, hp, at0, ?_⟩
              fail "rd"
              refine iteD (fun h2 => ?_) (fun h2 => ?_)
              · have hg : 0 < t.1 ∨ 0 < D := .inl h2
                fail "rd"
                refine fun H2 s2 => ?_
                fail "rd"
                refine fun H3 s3 => ?_
                have sT : Same H' H3 := s2.trans s3
                have hq3 := sT _ _ hq'
                fail "rd"
                refine iteE (fun h3 => ?_) (fun h3 => ?_)
                · fail "rd"
                  refine ⟨⟨p, t, rfl, same_tup sT hp, hSm, ?_⟩⟩
                  fail "rd"
                  refine iteB (fun h4 => ?_) (fun h4 => ?_)
                  · fail "rd"
                    refine ⟨.inl ⟨rfl, _, SqL.of hq3⟩, ?_⟩
                    fail "rd"
                    refine ⟨_, _, _, rfl, rfl, hq3, by rw [List.length_map]; exact Nat.lt_of_le_of_lt (show bs.length ≤ 6400 by omega) (by decide), ?_⟩
                    exact fin (by unfold arG; rw [Bool.and_eq_true_iff, Bool.and_eq_true_iff, Bool.or_eq_true_iff, decide_eq_true_iff, decide_eq_true_iff, decide_eq_true_iff]; exact ⟨⟨hg, by omega⟩, h4⟩) H3 sT _ _
                  · fail "rd"
                    exact non (by unfold arG; rw [h4, Bool.and_false]) H3 sT _ _
                · fail "rd"
                  exact non (by unfold arG; rw [show decide (Int.gcd ((Int.gcd a b : Nat) : Int) c = 1) = false from decide_eq_false (fun e => h3 (by rw [e]; rfl)), Bool.and_false, Bool.false_and]) H3 sT _ _
              · fail "rd"
                refine iteB (fun h5 => ?_) (fun h5 => ?_)
                · have hg : 0 < t.1 ∨ 0 < D := .inr (of_decide_eq_true h5)
                  fail "rd"
                  refine fun H2 s2 => ?_
                  fail "rd"
                  refine fun H3 s3 => ?_
                  have sT : Same H' H3 := s2.trans s3
                  have hq3 := sT _ _ hq'
                  fail "rd"
                  refine iteE (fun h3 => ?_) (fun h3 => ?_)
                  · fail "rd"
                    refine ⟨⟨p, t, rfl, same_tup sT hp, hSm, ?_⟩⟩
                    fail "rd"
                    refine iteB (fun h4 => ?_) (fun h4 => ?_)
                    · fail "rd"
                      refine ⟨.inl ⟨rfl, _, SqL.of hq3⟩, ?_⟩
                      fail "rd"
                      refine ⟨_, _, _, rfl, rfl, hq3, by rw [List.length_map]; exact Nat.lt_of_le_of_lt (show bs.length ≤ 6400 by omega) (by decide), ?_⟩
                      exact fin (by unfold arG; rw [Bool.and_eq_true_iff, Bool.and_eq_true_iff, Bool.or_eq_true_iff, decide_eq_true_iff, decide_eq_true_iff, decide_eq_true_iff]; exact ⟨⟨hg, by omega⟩, h4⟩) H3 sT _ _
                    · fail "rd"
                      exact non (by unfold arG; rw [h4, Bool.and_false]) H3 sT _ _
                  · fail "rd"
                    exact non (by unfold arG; rw [show decide (Int.gcd ((Int.gcd a b : Nat) : Int) c = 1) = false from decide_eq_false (fun e => h3 (by rw [e]; rfl)), Bool.and_false, Bool.false_and]) H3 sT _ _
                · fail "rd"
                  exact non (by unfold arG; rw [decide_eq_false h2, h5]; rfl) H' (Same.refl _) _ _
            · obtain ⟨o6, o7, bs, rfl, sa, hq', hT, hbs, _⟩ := hI
              exact ⟨_, _, _, _, bs, rfl, sa, hq', hT, hbs⟩
          · have earC : arC D a b = [] := if_neg h1
            rw [earC, List.append_nil]
            exact ⟨_, _, _, _, bs, rfl, sa, hq', hT, hbs⟩
        · obtain ⟨o4, o5, o6, o7, bs, rfl, sa, hq', hT, hbs⟩ := hI
          exact ⟨_, _, _, _, _, bs, rfl, sa, hq', hT, hbs⟩
    · obtain ⟨o3, o4, o5, o6, o7, bs, rfl, sa, hq', hT, hbs⟩ := hI
      have hal : (arA D (arTop D).toNat).length ≤ 200 * (arTop D).toNat := arA_len D (fun j hj => by unfold arN; split <;> omega) _ (by omega)
      have hbl : bs.length ≤ 4200 := by
        have := congrArg List.length hbs
        rw [List.length_map] at this
        omega
      fail "rd"
      refine ⟨_, bs, rfl, SqL.of hq', hT, by omega, fun p hp => ?_⟩
      have hpm := List.mergeSort_perm bs lb
      have hsorted : (bs.mergeSort lb).Pairwise fun x y => lb x y = true := List.pairwise_mergeSort (fun a b c => leT_trans a.2 b.2 c.2) (fun a b => leT_total a.2 b.2) bs
      refine k _ p (bs.mergeSort lb) (sa.trans (same_new hp)) (same_none sa hp) upd_same (tups_same (fun b hb => hT b (hpm.mem_iff.mp hb)) (same_new hp)) (List.pairwise_map.mpr hsorted) (fun x => ?_) (by rw [List.length_mergeSort]; omega)
      rw [(hpm.map _).mem_iff, hbs]
      rfl
end
end G41
set_option Elab.async false
set_option linter.all false
set_option maxRecDepth 100000
set_option maxHeartbeats 4000000
namespace G41
open PySem PySem.Spec PyProof.Rows L2
abbrev s_law_leads : Stmt := top 82
abbrev nm_law_leads : List Str := ["_law_whole_here", "_law_left", "_law_found", "_law_ring_here", "_law_own"]
abbrev ps_law_leads : List Str := ["_law_whole_here"]
theorem sc_law_leads : FnScope nm_law_leads ps_law_leads (defScope s_law_leads) := ⟨rfl, rfl, rfl, by decide +kernel, rfl, by decide +kernel, by decide +kernel⟩
abbrev s_law_places : Stmt := top 73
abbrev nm_law_places : List Str := ["_law_size", "_law_found", "_law_row", "_law_column"]
abbrev ps_law_places : List Str := ["_law_size"]
theorem sc_law_places : FnScope nm_law_places ps_law_places (defScope s_law_places) := ⟨rfl, rfl, rfl, by decide +kernel, rfl, by decide +kernel, by decide +kernel⟩
abbrev s_law_value : Stmt := top 74
abbrev nm_law_value : List Str := ["_law_own", "_law_vector", "_law_pairs_here", "_law_k"]
abbrev ps_law_value : List Str := ["_law_own", "_law_vector"]
theorem sc_law_value : FnScope nm_law_value ps_law_value (defScope s_law_value) := ⟨rfl, rfl, rfl, by decide +kernel, rfl, by decide +kernel, by decide +kernel⟩
local macro_rules | `(tactic| fail "rd1") => `(tactic| first
  | refine ⟨_, rfl, ?_⟩
  | refine ⟨_, _, rfl, rfl, ?_⟩
  | refine ⟨rfl, ?_⟩
  | refine ⟨_, _, rfl, ?_⟩
  | refine ⟨_, _, _, rfl, ?_⟩
  | fail)
local macro_rules | `(tactic| fail "rd") => `(tactic| repeat (fail "rd1"))
local macro_rules | `(tactic| fail "nn") => `(tactic| first
  | with_reducible assumption
  | (apply lkn; fail "ne"; fail "nn")
  | (apply none_same; with_reducible assumption; fail "sm"))
local macro_rules | `(tactic| fail "ne") => `(tactic| first
  | with_reducible assumption
  | exact (old_ne (by with_reducible assumption) (by with_reducible assumption)).1
  | exact (old_ne (by with_reducible assumption) (by with_reducible assumption)).2
  | (apply ne_new1; with_reducible assumption; fail "lk")
  | (apply ne_new2; with_reducible assumption; fail "lk"))
local macro_rules | `(tactic| fail "lk") => `(tactic| first
  | with_reducible assumption
  | exact upd_same
  | (apply lkn; fail "ne"; fail "lk")
  | (apply same_upd; with_reducible assumption; fail "lk"))
local macro_rules | `(tactic| fail "sm") => `(tactic| first
  | with_reducible assumption
  | exact Same.refl _
  | (apply same_mut; fail "sm"; fail "nn")
  | (apply trans_same; with_reducible assumption; fail "sm"))
local macro_rules | `(tactic| fail "sl") => `(tactic| first
  | with_reducible assumption
  | (apply lst_same; with_reducible assumption; fail "sm")
  | (apply SqL.of; fail "lk")
  | (apply lst_new; fail "nn"; fail "sl")
  | (apply lst_updn; fail "ne"; fail "sl")
  | (apply lst_trans; with_reducible assumption; fail "sl"))
local macro_rules | `(tactic| fail "st") => `(tactic| first
  | with_reducible assumption
  | (apply tup_same; with_reducible assumption; fail "sm")
  | (apply SqT.of; fail "lk")
  | (apply tup_new; fail "nn"; fail "st")
  | (apply tup_upd; fail "lk"; fail "st")
  | (apply tup_trans; with_reducible assumption; fail "st")
  | (apply tup_updI; fail "lk"; fail "st"))
local macro_rules | `(tactic| fail "nw") => `(tactic| (repeat (refine nwI (fun _ _ => ?_))); refine fun _ => ?_)
local macro_rules | `(tactic| fail "ln") => `(tactic| first
  | exact lenLt (Nat.le_of_ble_eq_true rfl)
  | exact Nat.le_of_ble_eq_true rfl)
local macro_rules | `(tactic| fail "un") => `(tactic| first
  | apply un_lcR
  | (refine un_lc2 2 ?_)
  | (apply un_lcL; fail "sl")
  | (apply un_lcT; fail "st")
  | (apply un_lcZ; fail "sl")
  | (apply un_lcZT; fail "st")
  | (apply un_lcZM; fail "sl"))
local macro_rules | `(tactic| fail "uf") => `(tactic| first
  | apply un_forR
  | (apply un_forL; fail "sl")
  | (apply un_forT; fail "st")
  | (apply un_forZ; fail "sl")
  | (apply un_forZT; fail "st")
  | (apply un_forZM; fail "sl")
  | (apply un_forE; fail "st"))
local macro_rules | `(tactic| fail "ns") => `(tactic| try simp only [wipe, L2.start, List.set_cons_zero, List.set_cons_succ, List.map_cons, List.map_nil, List.length_cons, List.length_nil, List.replicate_succ, List.replicate_zero, List.cons_append, List.nil_append, Nat.reduceAdd, Nat.reduceSub])
local macro_rules | `(tactic| fail "da") => `(tactic| first
  | exact DpAll.nil
  | (apply DpAll.cons; (first | exact Dp.int _ | (apply Dp.tup; fail "st"; fail "da") | (apply Dp.lst; fail "sl"; fail "da") | exact Dp.bl _ | exact Dp.str _); fail "da"))
local macro_rules | `(tactic| fail "dp") => `(tactic| first
  | exact Dp.int _
  | (apply Dp.tup; fail "st"; fail "da")
  | (apply Dp.lst; fail "sl"; fail "da"))
local macro_rules | `(tactic| fail "so") => `(tactic| first
  | (apply sx_upd; fail "so")
  | (apply sx_mut; fail "so"; fail "nn")
  | (apply sx_of; fail "sm"))
local macro_rules | `(tactic| fail "lg") => `(tactic| (refine PyProof.Rows.int_text_len_1921 (lg_small ?_); omega))
local macro_rules | `(tactic| fail "sx1") => `(tactic| (conv => whnf); first
  | (refine fun _ => ?_; fail "nw"; first | fail "un" | skip)
  | (refine fun _ => ?_)
  | (refine wipe_1 (by decide) ?_; fail "ns")
  | (refine wipe_2 (by decide) (by decide) ?_; fail "ns")
  | (refine ⟨_, rfl, ?_⟩)
  | (refine ⟨rfl, ?_⟩)
  | (refine ⟨_, _, rfl, rfl, ?_⟩)
  | (refine ⟨_, _, rfl, ?_⟩)
  | (refine ⟨_, _, _, rfl, ?_⟩)
  | apply un_forR
  | (apply un_forL; fail "sl")
  | (apply un_forT; fail "st")
  | (apply un_forZ; fail "sl")
  | (apply un_forZT; fail "st")
  | (apply un_forZM; fail "sl")
  | (apply un_forE; fail "st")
  | apply un_inR
  | (apply tyI; fail "sl")
  | (apply dpI; fail "dp"; fail "dp"; rfl; rfl)
  | (apply gtI; fail "st"; rfl)
  | apply isi_ii
  | apply isi_ib
  | (apply isi_tt; fail "st")
  | refine divN1 ?_
  | (apply nx_range; exact Nat.le_of_ble_eq_true rfl)
  | (apply nx_list; fail "sl"; rfl)
  | (apply nx_tup; fail "st"; rfl)
  | (apply nx_zip; fail "sl"; fail "sl"; rfl; rfl)
  | (apply nx_zipT; fail "st"; fail "st"; rfl; rfl)
  | (apply nx_zipM; fail "sl"; fail "st"; rfl; rfl)
  | (apply nx_enumT; fail "st"; rfl)
  | (apply st_range; fail "ln")
  | (apply st_list; fail "sl"; fail "ln")
  | (apply st_tup; fail "st"; fail "ln")
  | (apply st_zip; fail "sl"; fail "sl"; fail "ln")
  | (apply st_zipT; fail "st"; fail "st"; fail "ln")
  | (apply st_zipM; fail "sl"; fail "st"; rfl; rfl)
  | (apply st_enumT; fail "st"; rfl)
  | (apply mulR; with_reducible assumption)
  | (apply mulL; with_reducible assumption)
  | (apply accI; fail "lk"; fail "ln")
  | (apply apdI; fail "lk"; fail "ln")
  | (apply ixLI; fail "sl"; rfl)
  | (apply ixTI; fail "st"; rfl)
  | (apply setI; fail "lk"; rfl)
  | (apply slLI; fail "sl")
  | (apply sum2I; fail "sl")
  | (apply rep2I; fail "lk"; exact Nat.le_of_ble_eq_true rfl)
  | (refine And.intro (lg_small ?_) ?_; omega)
  | (apply joinI3; fail "sl"; fail "lg"; fail "lg"; fail "lg"; decide)
  | (apply enI; fail "st")
  | (apply enL; fail "sl")
  | (apply ppL; fail "sl")
  | (apply ppT; fail "st")
  | (apply pqL; fail "sl")
  | (apply pqT; fail "st")
  | (apply pzL; fail "sl"; fail "sl")
  | (apply pzT; fail "st"; fail "st")
  | (apply pzM; fail "sl"; fail "st")
  | (refine Or.inl ⟨_, rfl, ?_⟩)
  | (refine Or.inr ⟨_, rfl, ?_⟩)
  | (apply pxL; fail "sl")
  | (apply pxT; fail "st")
  | (refine iteTI rfl ?_)
  | (refine iteFI Bool.false_ne_true ?_)
  | (refine iteTI ?_ ?_; (simp [*]; done))
  | (refine iteFI ?_ ?_; (simp [*]; done))
  | (refine And.intro ?_ ?_; first | decide | (simp only [List.length_append, List.length_cons, List.length_nil]; decide)))
local macro_rules | `(tactic| fail "sx") => `(tactic| repeat (fail "sx1"))
local macro_rules | `(tactic| fail "tx1") => `(tactic| (conv => whnf); first
  | (refine fun _ => ?_; fail "nw")
  | (refine fun _ => ?_)
  | (refine wipe_1 (by decide) ?_; fail "ns")
  | (refine wipe_2 (by decide) (by decide) ?_; fail "ns")
  | (refine ⟨_, rfl, ?_⟩)
  | (refine ⟨rfl, ?_⟩)
  | (refine ⟨_, _, rfl, rfl, ?_⟩)
  | (refine ⟨_, _, rfl, ?_⟩)
  | (refine ⟨_, _, _, rfl, ?_⟩)
  | apply un_forR
  | (apply un_forL; fail "sl")
  | (apply un_forT; fail "st")
  | (apply un_forZ; fail "sl")
  | (apply un_forZT; fail "st")
  | (apply un_forZM; fail "sl")
  | (apply un_forE; fail "st")
  | apply un_inR
  | (apply tyI; fail "sl")
  | (apply dpI; fail "dp"; fail "dp"; rfl; rfl)
  | (apply gtI; fail "st"; rfl)
  | apply isi_ii
  | apply isi_ib
  | (apply isi_tt; fail "st")
  | refine divN1 ?_
  | (apply nx_range; exact Nat.le_of_ble_eq_true rfl)
  | (apply nx_list; fail "sl"; rfl)
  | (apply nx_tup; fail "st"; rfl)
  | (apply nx_zip; fail "sl"; fail "sl"; rfl; rfl)
  | (apply nx_zipT; fail "st"; fail "st"; rfl; rfl)
  | (apply nx_zipM; fail "sl"; fail "st"; rfl; rfl)
  | (apply nx_enumT; fail "st"; rfl)
  | (apply st_range; fail "ln")
  | (apply st_list; fail "sl"; fail "ln")
  | (apply st_tup; fail "st"; fail "ln")
  | (apply st_zip; fail "sl"; fail "sl"; fail "ln")
  | (apply st_zipT; fail "st"; fail "st"; fail "ln")
  | (apply st_zipM; fail "sl"; fail "st"; rfl; rfl)
  | (apply st_enumT; fail "st"; rfl)
  | (apply mulR; with_reducible assumption)
  | (apply mulL; with_reducible assumption)
  | (apply accI; fail "lk"; fail "ln")
  | (apply apdI; fail "lk"; fail "ln")
  | (apply ixLI; fail "sl"; rfl)
  | (apply ixTI; fail "st"; rfl)
  | (apply setI; fail "lk"; rfl)
  | (apply slLI; fail "sl")
  | (apply sum2I; fail "sl")
  | (apply rep2I; fail "lk"; exact Nat.le_of_ble_eq_true rfl)
  | (refine And.intro (lg_small ?_) ?_; omega)
  | (apply joinI3; fail "sl"; fail "lg"; fail "lg"; fail "lg"; decide)
  | (apply enI; fail "st")
  | (apply enL; fail "sl")
  | (apply ppL; fail "sl")
  | (apply ppT; fail "st")
  | (apply pqL; fail "sl")
  | (apply pqT; fail "st")
  | (apply pzL; fail "sl"; fail "sl")
  | (apply pzT; fail "st"; fail "st")
  | (apply pzM; fail "sl"; fail "st")
  | (refine Or.inl ⟨_, rfl, ?_⟩)
  | (refine Or.inr ⟨_, rfl, ?_⟩)
  | (apply pxL; fail "sl")
  | (apply pxT; fail "st")
  | (refine iteTI rfl ?_)
  | (refine iteFI Bool.false_ne_true ?_)
  | (refine iteTI ?_ ?_; (simp [*]; done))
  | (refine iteFI ?_ ?_; (simp [*]; done))
  | (refine And.intro ?_ ?_; first | decide | (simp only [List.length_append, List.length_cons, List.length_nil]; decide)))
local macro_rules | `(tactic| fail "tx") => `(tactic| repeat (fail "tx1"))
local macro_rules | `(tactic| fail "om") => `(tactic| first
  | omega
  | (dsimp only; omega)
  | (split <;> omega)
  | (dsimp only; split <;> omega))
local macro_rules | `(tactic| fail "bx1") => `(tactic| first
  | (refine iteD (fun _ => ?_) (fun _ => ?_))
  | (refine iteN (fun _ => ?_) (fun _ => ?_))
  | (refine iteE (fun _ => ?_) (fun _ => ?_))
  | (refine iteTI rfl ?_)
  | (refine iteFI Bool.false_ne_true ?_)
  | (refine ⟨_, rfl, ?_⟩)
  | (refine ⟨_, _, rfl, rfl, ?_⟩)
  | (refine ⟨rfl, ?_⟩)
  | (refine ⟨_, _, rfl, ?_⟩)
  | (apply mulR; with_reducible assumption)
  | (apply mulL; with_reducible assumption)
  | (apply mulL; refine ⟨?_, ?_⟩ <;> fail "om")
  | (apply powI; fail "om"))
local macro_rules | `(tactic| fail "bx") => `(tactic| repeat' (fail "bx1"))

/-- the ring of a reduced form, in the law's words -/
def rgM (t : T3) : List T3 := t :: (if dsc t < 0 then [] else (ringC 50 t (stepM t)).getD [])
structure GoodR (t : T3) : Prop where
  sml : Sml t
  ring : dsc t < 0 ∨ (¬ dsc t < 0 ∧ (∃ rs, ringC 50 t (stepM t) = some rs) ∧ ∀ s ∈ rgM t, RdN s)
def leadsF : Nat → List T3 → List T3
  | 0, _ => []
  | _ + 1, [] => []
  | k + 1, t :: r => t :: leadsF k ((t :: r).filter fun x => !decide (x ∈ rgM t))
theorem leadsF_nil : ∀ k, leadsF k [] = []
  | 0 => rfl
  | _ + 1 => rfl
section
variable {P : Program} {w : World} {K : PySem.W.Frag} {mg : Str → Option Value} {base : Heap} {f : Addr} {fd : FuncData} {C : Addr}
structure spLeads (K : PySem.W.Frag) (vs : List V) (H : Hp) (Q : VK) (E : XK) : Prop where
  ex : ∃ D, vs = [.int D] ∧ D ≠ 0 ∧ D.natAbs ≤ 400 ∧ (∀ t ∈ arL D, GoodR t) ∧ ∀ H' q bs ts, Same H H' → H q = none → H' q = some (.lst (rf bs)) → TupsAt K H' bs → ts.Pairwise (fun x y => leT x y = true) → (∀ x, x ∈ ts ↔ x ∈ arL D) → ts.length ≤ 6400 → bs.map (·.2) = leadsF ts.length ts → Q (.ref q) H'
theorem ok_law_leads (T : Tx K mg) (C_law_all_reduced : Cal P w K mg base 3 "_law_all_reduced" ps_law_all_reduced (spAR K)) (C_law_ring : Cal P w K mg base 3 "_law_ring" ps_law_ring (spLring K)) (F : FnP K "_law_leads" s_law_leads f fd) :
    FnOk P w K mg base CX0 4 f fd ps_law_leads (spLeads K) := by
  refine F.ok sc_law_leads (fun vs H Q E h => ?_) (fun cdv A outer s H vs Q E hr h => ?_)
  · obtain ⟨D, rfl, _⟩ := h
    rfl
  · obtain ⟨D, rfl, D0, D1, hG, k⟩ := h
    refine ⟨_, PSs.nox (pss_cons (ps_par (i := 1) (j := 2) rfl sc_law_leads.nd rfl rfl (by decide) rfl rfl (pa_cons (pe_cal C_law_all_reduced hr (pa_cons (pv 0) pa_nil)) (pa_cons (pe_lst pa_nil) pa_nil)) (by rfl))
    (pss_cons (ps_while PassesOwn.never (pt_cmpR (k_ne (K := K) rfl hr.units) (pv 1) (pe_lst pa_nil) (nomark _))
    (pss_cons (ps_expr (pe_bm PySem.F.plainAttrs_list PySem.F.slot_list_append PySem.F.type_list_append mt_append (pv 2) (pa_cons (pe_ix (k_ixl (K := K) rfl) (pv 1) pe_int (fun _ _ => rfl)) pa_nil)))
    (pss_cons (ps_set (i := 3) sc_law_leads.nd rfl (by first | exact Or.inl rfl | exact Or.inr rfl) (pe_cal C_law_ring hr (pa_cons (pe_ix (k_ixl (K := K) rfl) (pv 1) pe_int (fun _ _ => rfl)) pa_nil)))
    (pss_one (ps_setLc (i := 1) (own := [("_law_own", 4)]) rfl sc_law_leads.nd rfl rfl (sw_true rfl rfl rfl (by decide +kernel)) (k_pl (K := K) rfl (pv 1)) (blkOk_by (own := [("_law_own", 4)]) (by kernel_rfl)) (fun _ _ _ _ _ => (pg_name (i := 4) sc_law_leads.nd rfl (by first | exact Or.inl rfl | exact Or.inr rfl))) (fun _ _ _ _ _ => pts_one (pt_cmpR (k_notIn (K := K) rfl (hu65 hr)) (pv 4) (pv 3) (by rfl))) (fun _ _ _ _ _ => (pv 4)))))))
    (pss_one (ps_ret (pv 2))))), ?_⟩
    fail "rd"
    refine ⟨D0, D1, fun H1 q bs s1 q0 hq hT hsrt hmem hlen => ?_⟩
    fail "rd"
    refine ⟨Nat.zero_le _, fun p hp => ?_⟩
    fail "rd"
    refine ⟨fun m σ H' => ∃ q' bsL bsF o3, σ = [some (.int D), some (.ref q'), some (.ref p), o3, none] ∧ Same H H' ∧ H' q' = some (.lst (rf bsL)) ∧ q' ≠ p ∧ TupsAt K H' bsL ∧ H' p = some (.lst (rf bsF)) ∧ TupsAt K H' bsF ∧ (∀ b ∈ bsL, b.2 ∈ arL D) ∧ bsL.length ≤ m ∧ bsL.length ≤ 6400 ∧ bsF.length + m ≤ 6400 ∧
        bsF.map (·.2) ++ leadsF m (bsL.map (·.2)) = leadsF (bs.map (·.2)).length (bs.map (·.2)),
      ⟨(bs.map (·.2)).length, q, bs, [], none, rfl, s1.trans (same_new hp), (same_new hp) _ _ hq, (old_ne hq hp).1, tups_same hT (same_new hp), upd_same, fun b hb => (nomatch hb), fun b hb => (hmem _).mp (List.mem_map_of_mem hb), by rw [List.length_map]; exact Nat.le_refl _, hlen, by rw [List.length_map]; show 0 + bs.length ≤ 6400; omega, rfl⟩, ?_⟩
    rintro m σ H' ⟨q', bsL, bsF, o3, rfl, sa, hq', hqp, hTL, hp', hTF, hin, hlm, hl6, hlF, heq⟩
    have hp0 : H p = none := same_none s1 hp
    fail "rd"
    refine ⟨Nat.zero_le _, fun e he => ?_⟩
    have se : Same H' (upd H' e (.lst [])) := same_new he
    refine ⟨.list ((bsL.map (·.2)).map d3), .list (([] : List T3).map d3), dp_lst (SqL.of (se _ _ hq')) (tups_same hTL se), .lst (SqL.of upd_same) .nil, shaped_list _, shaped_list _, ?_⟩
    rw [eqv_list]
    cases bsL with
    | nil =>
      refine ⟨_, rfl, iteFI (by simp) ?_⟩
      fail "rd"
      rw [show leadsF m (([] : List (Addr × T3)).map (·.2)) = [] from leadsF_nil m, List.append_nil] at heq
      exact k _ p bsF (bs.map (·.2)) (sa.trans se) hp0 (se _ _ hp') (tups_same hTF se) hsrt hmem (by rw [List.length_map]; exact hlen) heq
    | cons b0 bl =>
      refine ⟨_, rfl, iteTI (by simp) ⟨_, fun _ _ h => h, ?_⟩⟩
      have hb0 := hTL b0 List.mem_cons_self
      obtain ⟨m', rfl⟩ : ∃ m', m = m' + 1 := ⟨m - 1, by have : (b0 :: bl).length = bl.length + 1 := rfl; omega⟩
      fail "rd"
      refine ⟨.inl ⟨rfl, _, SqL.of (se _ _ hp')⟩, ?_⟩
      fail "rd"
      refine ⟨q', _, 0, _, rfl, rfl, SqL.of (se _ _ hq'), at0, ?_⟩
      fail "rd"
      refine ⟨_, _, _, rfl, rfl, se _ _ hp', by rw [List.length_map]; exact Nat.lt_of_le_of_lt (show bsF.length ≤ 6400 by omega) (by decide), ?_⟩
      rw [show rf bsF ++ [V.ref b0.1] = rf (bsF ++ [b0]) from rf_add bsF b0.1 b0.2]
      have hpe := se _ _ hp'
      have hq2 : upd (upd H' e (.lst [])) p (.lst (rf (bsF ++ [b0]))) q' = some (.lst (rf (b0 :: bl))) := (upd_ne hqp).trans (se _ _ hq')
      have hTL2 : TupsAt K (upd (upd H' e (.lst [])) p (.lst (rf (bsF ++ [b0])))) (b0 :: bl) := tups_upd hpe (tups_same hTL se)
      have hTF2 : TupsAt K (upd (upd H' e (.lst [])) p (.lst (rf (bsF ++ [b0])))) (bsF ++ [b0]) := tups_upd hpe (tups_add (tups_same hTF se) (same_tup se hb0))
      have sa2 : Same H (upd (upd H' e (.lst [])) p (.lst (rf (bsF ++ [b0])))) := same_mut (sa.trans se) hp0
      have hp2 : upd (upd H' e (.lst [])) p (.lst (rf (bsF ++ [b0]))) p = some (.lst (rf (bsF ++ [b0]))) := upd_same
      generalize upd (upd H' e (.lst [])) p (.lst (rf (bsF ++ [b0]))) = H2 at *
      fail "rd"
      refine ⟨q', _, 0, _, rfl, rfl, SqL.of hq2, at0, ?_⟩
      fail "rd"
      obtain ⟨gs, gr⟩ := hG b0.2 (hin b0 List.mem_cons_self)
      have hrg : ∃ rs, rgM b0.2 = b0.2 :: rs ∧ ((dsc b0.2 < 0 ∧ rs = []) ∨ (¬ dsc b0.2 < 0 ∧ (∀ s ∈ b0.2 :: rs, RdN s) ∧ ringC 50 b0.2 (stepM b0.2) = some rs)) := by
        rcases gr with g1 | ⟨g1, ⟨rs, g2⟩, g3⟩
        · exact ⟨[], by unfold rgM; rw [if_pos g1], .inl ⟨g1, rfl⟩⟩
        · have e2 : rgM b0.2 = b0.2 :: rs := by unfold rgM; rw [if_neg g1, g2]; rfl
          exact ⟨rs, e2, .inr ⟨g1, e2 ▸ g3, g2⟩⟩
      obtain ⟨rs, erg, hrc⟩ := hrg
      refine ⟨⟨b0.1, b0.2, rs, rfl, hTL2 b0 List.mem_cons_self, gs, hrc, fun H3 r3 bsR s3 hr3n hr3 hT3 hm3 => ?_⟩⟩
      rw [← erg] at hm3
      fail "rd"
      refine ⟨⟨_, SqL.of (s3 _ _ hq2)⟩, fun Dn hDn => ?_⟩
      refine lc_filtL (fun b : Addr × T3 => V.ref b.1) (b0 :: bl) (fun b => !decide (b.2 ∈ rgM b0.2)) hDn (SqL.of (s3 _ _ hq2)) (by omega) (fun z hz H5 Qt Qn s5 kt kn => ?_) (fun H5 s5 hd5 => ?_)
      · fail "rd"
        refine ⟨d3 z.2, (bsR.map (·.2)).map d3, dp_tv (same_tup (s3.trans s5) (hTL2 z hz)), dp_lst (SqL.of (s5 _ _ hr3)) (tups_same hT3 s5), shaped_d3 _, shaped_list _, ?_⟩
        rw [any_d3, hm3]
        fail "rd"
        refine iteB (fun h1 => ?_) (fun h1 => ?_)
        · fail "rd"
          exact kt h1 _ (Same.refl _)
        · exact kn h1 _ (Same.refl _)
      · have sA : Same H2 H5 := s3.trans s5
        have hfl := List.length_filter_le (fun b : Addr × T3 => !decide (b.2 ∈ rgM b0.2)) bl
        have hf0 : (b0 :: bl).filter (fun b : Addr × T3 => !decide (b.2 ∈ rgM b0.2)) = bl.filter (fun b : Addr × T3 => !decide (b.2 ∈ rgM b0.2)) := by
          rw [List.filter_cons, if_neg]
          rw [erg]; simp
        have hcl : (b0 :: bl).length = bl.length + 1 := rfl
        fail "rd"
        refine ⟨m', Nat.lt_succ_self _, Dn, (b0 :: bl).filter (fun b => !decide (b.2 ∈ rgM b0.2)), bsF ++ [b0], _, rfl, sa2.trans sA, hd5, fun e3 => ?_, fun b hb => same_tup sA (hTL2 b (List.mem_filter.mp hb).1), sA _ _ hp2, tups_same hTF2 sA, fun b hb => hin b (List.mem_filter.mp hb).1, ?_, ?_, ?_, ?_⟩
        · rw [e3] at hDn
          rw [s3 _ _ hp2] at hDn
          cases hDn
        · rw [hf0]; omega
        · rw [hf0]; omega
        · rw [List.length_append]; show bsF.length + 1 + m' ≤ 6400; omega
        · rw [← heq, List.map_append, List.append_assoc]
          have e4 : ((b0 :: bl).filter (fun b : Addr × T3 => !decide (b.2 ∈ rgM b0.2))).map (·.2) = ((b0 :: bl).map (·.2)).filter fun x => !decide (x ∈ rgM b0.2) := by
            rw [List.filter_map]; rfl
          rw [e4]
          rfl
structure spPlaces (K : PySem.W.Frag) (vs : List V) (H : Hp) (Q : VK) (E : XK) : Prop where
  ex : vs = [.int 2] ∧ ∀ H' p t0 t1 t2, Same H H' → SqL K H' p [.ref t0, .ref t1, .ref t2] → SqT K H' t0 [.int 0, .int 0] → SqT K H' t1 [.int 0, .int 1] → SqT K H' t2 [.int 1, .int 1] → Q (.ref p) H'
theorem ok_law_places (T : Tx K mg) (F : FnP K "_law_places" s_law_places f fd) : FnOk P w K mg base CX0 1 f fd ps_law_places (spPlaces K) := by
  refine F.ok sc_law_places (fun vs H Q E h => ?_) (fun cdv A outer s H vs Q E hr h => ?_)
  · obtain ⟨rfl, _⟩ := h
    rfl
  · obtain ⟨rfl, k⟩ := h
    refine ⟨_, PSs.nox (pss_cons (ps_set (i := 1) sc_law_places.nd rfl (Or.inl rfl) (pe_lst pa_nil))
    (pss_cons (ps_for PassesOwn.never rfl (pi_range1 (by rfl) T.b_range (pa_cons (pv 0) pa_nil)) (pg_name (i := 2) sc_law_places.nd rfl (by first | exact Or.inl rfl | exact Or.inr rfl))
    (pss_one (ps_set (i := 1) sc_law_places.nd rfl (Or.inl rfl) (pe_op op_cat (pv 1) (pe_lc (own := [("_law_column", 3)]) rfl sc_law_places.nd (pi_range2 (by rfl) T.b_range (pa_cons (pv 2) (pa_cons (pv 0) pa_nil))) (blkOk_by (own := [("_law_column", 3)]) (by kernel_rfl)) (fun _ _ _ _ _ => (pg_name (i := 3) sc_law_places.nd rfl (by first | exact Or.inl rfl | exact Or.inr rfl))) (fun _ _ _ _ _ => pts_nil) (fun _ _ _ _ _ => (pe_tup (pa_cons (pv 2) (pa_cons (pv 3) pa_nil)))))))))
    (pss_one (ps_ret (pv 1))))), ?_⟩
    fail "sx"
    refine ⟨_, _, _, _, rfl, rfl, by fail "lk", by fail "lk", by simp only [List.length_append, List.length_cons, List.length_nil]; decide, ?_⟩
    fail "sx"
    refine ⟨_, _, _, _, rfl, rfl, by fail "lk", by fail "lk", by simp only [List.length_append, List.length_cons, List.length_nil]; decide, ?_⟩
    fail "sx"
    apply k
    fail "sm"
    fail "sl"
    fail "st"
    fail "st"
    fail "st"
/-- a form's value -/
def spVal (K : PySem.W.Frag) : Sp := fun vs H Q _ => ∃ (p q : Addr) (t : T3) (x y : Int), vs = [.ref p, .ref q] ∧ T3At K H p t ∧ SqT K H q [.int x, .int y] ∧ Sml t ∧ x.natAbs ≤ 1000 ∧ y.natAbs ≤ 1000 ∧ ∀ H', Same H H' → Q (.int (valM t x y)) H'
theorem ok_law_value (T : Tx K mg) (C_law_places : Cal P w K mg base 1 "_law_places" ps_law_places (spPlaces K)) (F : FnP K "_law_value" s_law_value f fd) : FnOk P w K mg base CX0 2 f fd ps_law_value (spVal K) := by
  refine F.ok sc_law_value (fun vs H Q E h => ?_) (fun cdv A outer s H vs Q E hr h => ?_)
  · obtain ⟨p, q, t, x, y, rfl, _⟩ := h
    rfl
  · obtain ⟨p, q, ⟨a, b, c⟩, x, y, rfl, hp, hq, ⟨b1, b2, b3⟩, x1, y1, k⟩ := h
    refine ⟨_, PSs.nox (pss_cons (ps_set (i := 2) sc_law_value.nd rfl (by first | exact Or.inl rfl | exact Or.inr rfl) (pe_cal C_law_places hr (pa_cons (pe_callB (k_len (K := K) rfl) (by rfl) T.b_len (by decide +kernel) (pa_cons (pv 1) pa_nil)) pa_nil)))
    (pss_one (ps_ret (pe_callB (k_sum (K := K) rfl rfl) (by rfl) T.b_sum (by decide +kernel) (pa_cons (pe_lc (own := [("_law_k", 3)]) rfl sc_law_value.nd (pi_range1 (by rfl) T.b_range (pa_cons (pe_callB (k_len (K := K) rfl) (by rfl) T.b_len (by decide +kernel) (pa_cons (pv 0) pa_nil)) pa_nil)) (blkOk_by (own := [("_law_k", 3)]) (by kernel_rfl)) (fun _ _ _ _ _ => (pg_name (i := 3) sc_law_value.nd rfl (by first | exact Or.inl rfl | exact Or.inr rfl))) (fun _ _ _ _ _ => pts_nil) (fun _ _ _ _ _ => (pe_op op_mul (pe_op op_mul (pe_ix (k_ixt (K := K) rfl) (pv 0) (pv 3) (fun _ _ => rfl)) (pe_ix (k_ixt (K := K) rfl) (pv 1) (pe_ix (k_ixt (K := K) rfl) (pe_ix (k_ixl (K := K) rfl) (pv 2) (pv 3) (fun _ _ => rfl)) pe_int (fun _ _ => rfl)) (fun _ _ => rfl))) (pe_ix (k_ixt (K := K) rfl) (pv 1) (pe_ix (k_ixt (K := K) rfl) (pe_ix (k_ixl (K := K) rfl) (pv 2) (pv 3) (fun _ _ => rfl)) pe_int (fun _ _ => rfl)) (fun _ _ => rfl))))) pa_nil))))), ?_⟩
    simp only at b1 b2 b3
    have hp' : SqT K H p [.int a, .int b, .int c] := hp
    have ma : Sm a := ⟨by omega, by omega⟩
    have mb : Sm b := ⟨by omega, by omega⟩
    have mc : Sm c := ⟨by omega, by omega⟩
    have mx : Sm x := ⟨by omega, by omega⟩
    have my : Sm y := ⟨by omega, by omega⟩
    fail "sx"
    refine ⟨_, [a * x * x, b * x * y, c * y * y], rfl, by fail "sl", ?_⟩
    have es : [a * x * x, b * x * y, c * y * y].sum = valM (a, b, c) x y := by
      show _ = a * x * x + b * x * y + c * y * y
      simp [List.sum_cons, Int.add_assoc]
    rw [es]
    apply k
    fail "sm"
end
end G41
set_option Elab.async false
set_option linter.all false
set_option maxRecDepth 100000
set_option maxHeartbeats 4000000
namespace G41
open PySem PySem.Spec PyProof.Rows L2
abbrev s_law_has : Stmt := top 85
abbrev nm_law_has : List Str := ["_law_own", "_law_number", "_law_whole_here", "_law_far", "_law_y", "_law_wide", "_law_x"]
abbrev ps_law_has : List Str := ["_law_own", "_law_number"]
theorem sc_law_has : FnScope nm_law_has ps_law_has (defScope s_law_has) := ⟨rfl, rfl, rfl, by decide +kernel, rfl, by decide +kernel, by decide +kernel⟩
abbrev s_law_is_square_rest : Stmt := top 86
abbrev nm_law_is_square_rest : List Str := ["_law_whole_here", "_law_number", "_law_top", "_law_x"]
abbrev ps_law_is_square_rest : List Str := ["_law_whole_here", "_law_number"]
theorem sc_law_is_square_rest : FnScope nm_law_is_square_rest ps_law_is_square_rest (defScope s_law_is_square_rest) := ⟨rfl, rfl, rfl, by decide +kernel, rfl, by decide +kernel, by decide +kernel⟩
abbrev s_law_whole : Stmt := top 77
abbrev nm_law_whole : List Str := ["_law_jar_here", "_law_least", "_law_most", "_law_found"]
abbrev ps_law_whole : List Str := ["_law_jar_here", "_law_least", "_law_most"]
theorem sc_law_whole : FnScope nm_law_whole ps_law_whole (defScope s_law_whole) := ⟨rfl, rfl, rfl, by decide +kernel, rfl, by decide +kernel, by decide +kernel⟩
abbrev s_law_jar : Stmt := top 84
abbrev nm_law_jar : List Str := ["_law_cells", "_law_turn", "_law_cell", "_law_mixed", "_law_each"]
abbrev ps_law_jar : List Str := ["_law_cells", "_law_turn"]
theorem sc_law_jar : FnScope nm_law_jar ps_law_jar (defScope s_law_jar) := ⟨rfl, rfl, rfl, by decide +kernel, rfl, by decide +kernel, by decide +kernel⟩
local macro_rules | `(tactic| fail "rd1") => `(tactic| first
  | refine ⟨_, rfl, ?_⟩
  | refine ⟨_, _, rfl, rfl, ?_⟩
  | refine ⟨rfl, ?_⟩
  | refine ⟨_, _, rfl, ?_⟩
  | refine ⟨_, _, _, rfl, ?_⟩
  | fail)
local macro_rules | `(tactic| fail "rd") => `(tactic| repeat (fail "rd1"))
local macro_rules | `(tactic| fail "nn") => `(tactic| first
  | with_reducible assumption
  | (apply lkn; fail "ne"; fail "nn")
  | (apply none_same; with_reducible assumption; fail "sm"))
local macro_rules | `(tactic| fail "ne") => `(tactic| first
  | with_reducible assumption
  | exact (old_ne (by with_reducible assumption) (by with_reducible assumption)).1
  | exact (old_ne (by with_reducible assumption) (by with_reducible assumption)).2
  | (apply ne_new1; with_reducible assumption; fail "lk")
  | (apply ne_new2; with_reducible assumption; fail "lk"))
local macro_rules | `(tactic| fail "lk") => `(tactic| first
  | with_reducible assumption
  | exact upd_same
  | (apply lkn; fail "ne"; fail "lk")
  | (apply same_upd; with_reducible assumption; fail "lk"))
local macro_rules | `(tactic| fail "sm") => `(tactic| first
  | with_reducible assumption
  | exact Same.refl _
  | (apply same_mut; fail "sm"; fail "nn")
  | (apply trans_same; with_reducible assumption; fail "sm"))
local macro_rules | `(tactic| fail "sl") => `(tactic| first
  | with_reducible assumption
  | (apply lst_same; with_reducible assumption; fail "sm")
  | (apply SqL.of; fail "lk")
  | (apply lst_new; fail "nn"; fail "sl")
  | (apply lst_updn; fail "ne"; fail "sl")
  | (apply lst_trans; with_reducible assumption; fail "sl"))
local macro_rules | `(tactic| fail "st") => `(tactic| first
  | with_reducible assumption
  | (apply tup_same; with_reducible assumption; fail "sm")
  | (apply SqT.of; fail "lk")
  | (apply tup_new; fail "nn"; fail "st")
  | (apply tup_upd; fail "lk"; fail "st")
  | (apply tup_trans; with_reducible assumption; fail "st")
  | (apply tup_updI; fail "lk"; fail "st"))
local macro_rules | `(tactic| fail "nw") => `(tactic| (repeat (refine nwI (fun _ _ => ?_))); refine fun _ => ?_)
local macro_rules | `(tactic| fail "ln") => `(tactic| first
  | exact lenLt (Nat.le_of_ble_eq_true rfl)
  | exact Nat.le_of_ble_eq_true rfl)
local macro_rules | `(tactic| fail "un") => `(tactic| first
  | apply un_lcR
  | (refine un_lc2 2 ?_)
  | (apply un_lcL; fail "sl")
  | (apply un_lcT; fail "st")
  | (apply un_lcZ; fail "sl")
  | (apply un_lcZT; fail "st")
  | (apply un_lcZM; fail "sl"))
local macro_rules | `(tactic| fail "uf") => `(tactic| first
  | apply un_forR
  | (apply un_forL; fail "sl")
  | (apply un_forT; fail "st")
  | (apply un_forZ; fail "sl")
  | (apply un_forZT; fail "st")
  | (apply un_forZM; fail "sl")
  | (apply un_forE; fail "st"))
local macro_rules | `(tactic| fail "ns") => `(tactic| try simp only [wipe, L2.start, List.set_cons_zero, List.set_cons_succ, List.map_cons, List.map_nil, List.length_cons, List.length_nil, List.replicate_succ, List.replicate_zero, List.cons_append, List.nil_append, Nat.reduceAdd, Nat.reduceSub])
local macro_rules | `(tactic| fail "da") => `(tactic| first
  | exact DpAll.nil
  | (apply DpAll.cons; (first | exact Dp.int _ | (apply Dp.tup; fail "st"; fail "da") | (apply Dp.lst; fail "sl"; fail "da") | exact Dp.bl _ | exact Dp.str _); fail "da"))
local macro_rules | `(tactic| fail "dp") => `(tactic| first
  | exact Dp.int _
  | (apply Dp.tup; fail "st"; fail "da")
  | (apply Dp.lst; fail "sl"; fail "da"))
local macro_rules | `(tactic| fail "so") => `(tactic| first
  | (apply sx_upd; fail "so")
  | (apply sx_mut; fail "so"; fail "nn")
  | (apply sx_of; fail "sm"))
local macro_rules | `(tactic| fail "lg") => `(tactic| (refine PyProof.Rows.int_text_len_1921 (lg_small ?_); omega))
local macro_rules | `(tactic| fail "sx1") => `(tactic| (conv => whnf); first
  | (refine fun _ => ?_; fail "nw"; first | fail "un" | skip)
  | (refine fun _ => ?_)
  | (refine wipe_1 (by decide) ?_; fail "ns")
  | (refine wipe_2 (by decide) (by decide) ?_; fail "ns")
  | (refine ⟨_, rfl, ?_⟩)
  | (refine ⟨rfl, ?_⟩)
  | (refine ⟨_, _, rfl, rfl, ?_⟩)
  | (refine ⟨_, _, rfl, ?_⟩)
  | (refine ⟨_, _, _, rfl, ?_⟩)
  | apply un_forR
  | (apply un_forL; fail "sl")
  | (apply un_forT; fail "st")
  | (apply un_forZ; fail "sl")
  | (apply un_forZT; fail "st")
  | (apply un_forZM; fail "sl")
  | (apply un_forE; fail "st")
  | apply un_inR
  | (apply tyI; fail "sl")
  | (apply dpI; fail "dp"; fail "dp"; rfl; rfl)
  | (apply gtI; fail "st"; rfl)
  | apply isi_ii
  | apply isi_ib
  | (apply isi_tt; fail "st")
  | refine divN1 ?_
  | (apply nx_range; exact Nat.le_of_ble_eq_true rfl)
  | (apply nx_list; fail "sl"; rfl)
  | (apply nx_tup; fail "st"; rfl)
  | (apply nx_zip; fail "sl"; fail "sl"; rfl; rfl)
  | (apply nx_zipT; fail "st"; fail "st"; rfl; rfl)
  | (apply nx_zipM; fail "sl"; fail "st"; rfl; rfl)
  | (apply nx_enumT; fail "st"; rfl)
  | (apply st_range; fail "ln")
  | (apply st_list; fail "sl"; fail "ln")
  | (apply st_tup; fail "st"; fail "ln")
  | (apply st_zip; fail "sl"; fail "sl"; fail "ln")
  | (apply st_zipT; fail "st"; fail "st"; fail "ln")
  | (apply st_zipM; fail "sl"; fail "st"; rfl; rfl)
  | (apply st_enumT; fail "st"; rfl)
  | (apply mulR; with_reducible assumption)
  | (apply mulL; with_reducible assumption)
  | (apply accI; fail "lk"; fail "ln")
  | (apply apdI; fail "lk"; fail "ln")
  | (apply ixLI; fail "sl"; rfl)
  | (apply ixTI; fail "st"; rfl)
  | (apply setI; fail "lk"; rfl)
  | (apply slLI; fail "sl")
  | (apply sum2I; fail "sl")
  | (apply rep2I; fail "lk"; exact Nat.le_of_ble_eq_true rfl)
  | (refine And.intro (lg_small ?_) ?_; omega)
  | (apply joinI3; fail "sl"; fail "lg"; fail "lg"; fail "lg"; decide)
  | (apply enI; fail "st")
  | (apply enL; fail "sl")
  | (apply ppL; fail "sl")
  | (apply ppT; fail "st")
  | (apply pqL; fail "sl")
  | (apply pqT; fail "st")
  | (apply pzL; fail "sl"; fail "sl")
  | (apply pzT; fail "st"; fail "st")
  | (apply pzM; fail "sl"; fail "st")
  | (refine Or.inl ⟨_, rfl, ?_⟩)
  | (refine Or.inr ⟨_, rfl, ?_⟩)
  | (apply pxL; fail "sl")
  | (apply pxT; fail "st")
  | (refine iteTI rfl ?_)
  | (refine iteFI Bool.false_ne_true ?_)
  | (refine iteTI ?_ ?_; (simp [*]; done))
  | (refine iteFI ?_ ?_; (simp [*]; done))
  | (refine And.intro ?_ ?_; first | decide | (simp only [List.length_append, List.length_cons, List.length_nil]; decide)))
local macro_rules | `(tactic| fail "sx") => `(tactic| repeat (fail "sx1"))
local macro_rules | `(tactic| fail "tx1") => `(tactic| (conv => whnf); first
  | (refine fun _ => ?_; fail "nw")
  | (refine fun _ => ?_)
  | (refine wipe_1 (by decide) ?_; fail "ns")
  | (refine wipe_2 (by decide) (by decide) ?_; fail "ns")
  | (refine ⟨_, rfl, ?_⟩)
  | (refine ⟨rfl, ?_⟩)
  | (refine ⟨_, _, rfl, rfl, ?_⟩)
  | (refine ⟨_, _, rfl, ?_⟩)
  | (refine ⟨_, _, _, rfl, ?_⟩)
  | apply un_forR
  | (apply un_forL; fail "sl")
  | (apply un_forT; fail "st")
  | (apply un_forZ; fail "sl")
  | (apply un_forZT; fail "st")
  | (apply un_forZM; fail "sl")
  | (apply un_forE; fail "st")
  | apply un_inR
  | (apply tyI; fail "sl")
  | (apply dpI; fail "dp"; fail "dp"; rfl; rfl)
  | (apply gtI; fail "st"; rfl)
  | apply isi_ii
  | apply isi_ib
  | (apply isi_tt; fail "st")
  | refine divN1 ?_
  | (apply nx_range; exact Nat.le_of_ble_eq_true rfl)
  | (apply nx_list; fail "sl"; rfl)
  | (apply nx_tup; fail "st"; rfl)
  | (apply nx_zip; fail "sl"; fail "sl"; rfl; rfl)
  | (apply nx_zipT; fail "st"; fail "st"; rfl; rfl)
  | (apply nx_zipM; fail "sl"; fail "st"; rfl; rfl)
  | (apply nx_enumT; fail "st"; rfl)
  | (apply st_range; fail "ln")
  | (apply st_list; fail "sl"; fail "ln")
  | (apply st_tup; fail "st"; fail "ln")
  | (apply st_zip; fail "sl"; fail "sl"; fail "ln")
  | (apply st_zipT; fail "st"; fail "st"; fail "ln")
  | (apply st_zipM; fail "sl"; fail "st"; rfl; rfl)
  | (apply st_enumT; fail "st"; rfl)
  | (apply mulR; with_reducible assumption)
  | (apply mulL; with_reducible assumption)
  | (apply accI; fail "lk"; fail "ln")
  | (apply apdI; fail "lk"; fail "ln")
  | (apply ixLI; fail "sl"; rfl)
  | (apply ixTI; fail "st"; rfl)
  | (apply setI; fail "lk"; rfl)
  | (apply slLI; fail "sl")
  | (apply sum2I; fail "sl")
  | (apply rep2I; fail "lk"; exact Nat.le_of_ble_eq_true rfl)
  | (refine And.intro (lg_small ?_) ?_; omega)
  | (apply joinI3; fail "sl"; fail "lg"; fail "lg"; fail "lg"; decide)
  | (apply enI; fail "st")
  | (apply enL; fail "sl")
  | (apply ppL; fail "sl")
  | (apply ppT; fail "st")
  | (apply pqL; fail "sl")
  | (apply pqT; fail "st")
  | (apply pzL; fail "sl"; fail "sl")
  | (apply pzT; fail "st"; fail "st")
  | (apply pzM; fail "sl"; fail "st")
  | (refine Or.inl ⟨_, rfl, ?_⟩)
  | (refine Or.inr ⟨_, rfl, ?_⟩)
  | (apply pxL; fail "sl")
  | (apply pxT; fail "st")
  | (refine iteTI rfl ?_)
  | (refine iteFI Bool.false_ne_true ?_)
  | (refine iteTI ?_ ?_; (simp [*]; done))
  | (refine iteFI ?_ ?_; (simp [*]; done))
  | (refine And.intro ?_ ?_; first | decide | (simp only [List.length_append, List.length_cons, List.length_nil]; decide)))
local macro_rules | `(tactic| fail "tx") => `(tactic| repeat (fail "tx1"))
local macro_rules | `(tactic| fail "om") => `(tactic| first
  | omega
  | (dsimp only; omega)
  | (split <;> omega)
  | (dsimp only; split <;> omega))
local macro_rules | `(tactic| fail "bx1") => `(tactic| first
  | (refine iteD (fun _ => ?_) (fun _ => ?_))
  | (refine iteN (fun _ => ?_) (fun _ => ?_))
  | (refine iteE (fun _ => ?_) (fun _ => ?_))
  | (refine iteTI rfl ?_)
  | (refine iteFI Bool.false_ne_true ?_)
  | (refine ⟨_, rfl, ?_⟩)
  | (refine ⟨_, _, rfl, rfl, ?_⟩)
  | (refine ⟨rfl, ?_⟩)
  | (refine ⟨_, _, rfl, ?_⟩)
  | (apply mulR; with_reducible assumption)
  | (apply mulL; with_reducible assumption)
  | (apply mulL; refine ⟨?_, ?_⟩ <;> fail "om")
  | (apply powI; fail "om"))
local macro_rules | `(tactic| fail "bx") => `(tactic| repeat' (fail "bx1"))

/-- the law's search for a vector that gives the number -/
def farM (c n W : Int) : Int := isq ((4 * c * n).fdiv W + 1) + 1
def hasM (t : T3) (n : Int) : Bool := (List.range (farM t.1 n (-dsc t) + 1).toNat).any fun (j : Nat) => (List.range (2 * farM t.2.2 n (-dsc t) + 1).toNat).any fun (i : Nat) => decide (Int.gcd ((i : Int) - farM t.2.2 n (-dsc t)) (j : Int) = 1) && decide (valM t ((i : Int) - farM t.2.2 n (-dsc t)) (j : Int) = n)
theorem far_bnd {c n W : Int} (c0 : 0 < c) (c1 : c ≤ 400) (n0 : 1 ≤ n) (n1 : n ≤ 60) (hW : 1 ≤ W) : 0 ≤ 4 * c * n ∧ 4 * c * n ≤ 96000 ∧ 0 ≤ (4 * c * n).fdiv W + 1 ∧ (4 * c * n).fdiv W + 1 < 1000000 ∧ 1 ≤ farM c n W ∧ farM c n W ≤ 400 := by
  have h1 : 0 ≤ 4 * c * n := Int.mul_nonneg (by omega) (by omega)
  have h2 : 4 * c * n ≤ 1600 * 60 := Int.mul_le_mul (by omega) n1 (by omega) (by omega)
  have h3 := Int.natAbs_fdiv_le_natAbs (4 * c * n) W
  have h4 : 0 ≤ (4 * c * n).fdiv W := Int.fdiv_nonneg h1 (by omega)
  have h5 := isq_nn ((4 * c * n).fdiv W + 1)
  refine ⟨h1, by omega, by omega, by omega, by unfold farM; omega, ?_⟩
  have h6 := (isq_ok (v := (4 * c * n).fdiv W + 1) (by omega) (by omega)).1
  unfold farM
  refine Int.not_lt.mp fun h => ?_
  have : 400 * 400 ≤ isq ((4 * c * n).fdiv W + 1) * isq ((4 * c * n).fdiv W + 1) := Int.mul_le_mul (by omega) (by omega) (by omega) (by omega)
  omega
section
variable {P : Program} {w : World} {K : PySem.W.Frag} {mg : Str → Option Value} {base : Heap} {f : Addr} {fd : FuncData} {C : Addr}
structure spHas (K : PySem.W.Frag) (vs : List V) (H : Hp) (Q : VK) (E : XK) : Prop where
  ex : ∃ p t n, vs = [.ref p, .int n] ∧ T3At K H p t ∧ 0 < t.1 ∧ 0 < t.2.2 ∧ t.1 ≤ 400 ∧ t.2.2 ≤ 400 ∧ t.2.1.natAbs ≤ 400 ∧ dsc t < 0 ∧ 1 ≤ n ∧ n ≤ 60 ∧ ∀ H', Same H H' → Q (.bl (hasM t n)) H'
theorem ok_law_has (T : Tx K mg) (C_law_d : Cal P w K mg base 1 "_law_d" ps_law_d (spLd K)) (C_law_root : Cal P w K mg base 1 "_law_root" ps_law_root spRoot) (C_law_gcd : Cal P w K mg base 1 "_law_gcd" ps_law_gcd spGcd) (C_law_value : Cal P w K mg base 2 "_law_value" ps_law_value (spVal K))
    (F : FnP K "_law_has" s_law_has f fd) : FnOk P w K mg base CX0 3 f fd ps_law_has (spHas K) := by
  refine F.ok sc_law_has (fun vs H Q E h => ?_) (fun cdv A outer s H vs Q E hr h => ?_)
  · obtain ⟨p, t, n, rfl, _⟩ := h
    rfl
  · obtain ⟨p, ⟨a, b, c⟩, n, rfl, hp, a0, c0, a1, c1, b1, hd, n0, n1, k⟩ := h
    refine ⟨_, PSs.nox (pss_cons (ps_set (i := 2) sc_law_has.nd rfl (Or.inl rfl) (pe_un un_neg (pe_cal C_law_d hr (pa_cons (pv 0) pa_nil))))
    (pss_cons (ps_set (i := 3) sc_law_has.nd rfl (Or.inl rfl) (pe_op op_add (pe_cal C_law_root hr (pa_cons (pe_op op_add (pe_op op_fdivN (pe_op op_mul (pe_op op_mul pe_int (pe_ix (k_ixt (K := K) rfl) (pv 0) pe_int (fun _ _ => rfl))) (pv 1)) (pv 2)) pe_int) pa_nil)) pe_int))
    (pss_cons (ps_for PassesOwn.never rfl (pi_range1 (by rfl) T.b_range (pa_cons (pe_op op_add (pv 3) pe_int) pa_nil)) (pg_name (i := 4) sc_law_has.nd rfl (by first | exact Or.inl rfl | exact Or.inr rfl))
    (pss_cons (ps_set (i := 5) sc_law_has.nd rfl (Or.inl rfl) (pe_op op_add (pe_cal C_law_root hr (pa_cons (pe_op op_add (pe_op op_fdivN (pe_op op_mul (pe_op op_mul pe_int (pe_ix (k_ixt (K := K) rfl) (pv 0) pe_int (fun _ _ => rfl))) (pv 1)) (pv 2)) pe_int) pa_nil)) pe_int))
    (pss_one (ps_for PassesOwn.never rfl (pi_range2 (by rfl) T.b_range (pa_cons (pe_un un_neg (pv 5)) (pa_cons (pe_op op_add (pv 5) pe_int) pa_nil))) (pg_name (i := 6) sc_law_has.nd rfl (by first | exact Or.inl rfl | exact Or.inr rfl))
    (pss_one (ps_if (PW.pt (pw_and (pt_cmpR op_eq (pe_cal C_law_gcd hr (pa_cons (pv 6) (pa_cons (pv 4) pa_nil))) pe_int (nomark _)) (pw_and1 (pt_cmpR op_eq (pe_cal C_law_value hr (pa_cons (pv 0) (pa_cons (pe_tup (pa_cons (pv 6) (pa_cons (pv 4) pa_nil))) pa_nil))) (pv 1) (nomark _)))))
    (pss_one (ps_ret pe_bl))
    pss_nil))))))
    (pss_one (ps_ret pe_bl))))), ?_⟩
    have hp' : SqT K H p [.int a, .int b, .int c] := hp
    simp only at a0 c0 a1 c1 b1
    have m4 : Sm 4 := ⟨by decide, by decide⟩
    have ma : Sm a := ⟨by omega, by omega⟩
    have mc : Sm c := ⟨by omega, by omega⟩
    have mn : Sm n := ⟨by omega, by omega⟩
    have hS : Sml (a, b, c) := ⟨by show a.natAbs ≤ 100000; omega, by show b.natAbs ≤ 100000; omega, by show c.natAbs ≤ 100000; omega⟩
    fail "sx"
    refine ⟨⟨p, (a, b, c), rfl, hp, hS, ?_⟩⟩
    fail "sx"
    obtain ⟨q1, q2, q3, q4, q5, q6⟩ := far_bnd a0 a1 n0 n1 (show 1 ≤ -dsc (a, b, c) by omega)
    obtain ⟨r1, r2, r3, r4, r5, r6⟩ := far_bnd c0 c1 n0 n1 (show 1 ≤ -dsc (a, b, c) by omega)
    have hdl : (dsc (a, b, c)).natAbs ≤ 1000000 := by
      have e : dsc (a, b, c) = b * b - 4 * a * c := rfl
      have h1 : b * b ≤ 400 * 400 := by
        have h : 0 ≤ (400 - b) * (400 + b) := Int.mul_nonneg (by omega) (by omega)
        have e : (400 - b) * (400 + b) = 400 * 400 - b * b := by grind
        omega
      have h2 : 0 ≤ b * b := sq_nn
      have h3 : 4 * a * c ≤ 1600 * 400 := Int.mul_le_mul (by omega) c1 (by omega) (by omega)
      have h4 : 0 ≤ 4 * a * c := Int.mul_nonneg (by omega) (by omega)
      omega
    refine ⟨⟨by omega, by omega⟩, ?_⟩
    fail "sx"
    refine ⟨q3, q4, fun H1 s1 => ?_⟩
    fail "rd"
    refine ⟨by show -2 ^ 62 ≤ farM a n (-dsc (a, b, c)) + 1; omega, by show farM a n (-dsc (a, b, c)) + 1 < 2 ^ 62; omega, ?_⟩
    have eF : isq ((4 * a * n).fdiv (-dsc (a, b, c)) + 1) + 1 = farM a n (-dsc (a, b, c)) := rfl
    refine for_range (lo := 0) (n := (farM a n (-dsc (a, b, c)) + 1).toNat) (fun j σ H' => ∃ o4 o5 o6, σ = [some (.ref p), some (.int n), some (.int (-dsc (a, b, c))), some (.int (farM a n (-dsc (a, b, c)))), o4, o5, o6] ∧ Same H H' ∧
        ∀ y : Nat, y < j → ((List.range (2 * farM c n (-dsc (a, b, c)) + 1).toNat).any fun (i : Nat) => decide (Int.gcd ((i : Int) - farM c n (-dsc (a, b, c))) (y : Int) = 1) && decide (valM (a, b, c) ((i : Int) - farM c n (-dsc (a, b, c))) (y : Int) = n)) = false)
      ⟨none, none, none, rfl, s1, fun y hy => absurd hy (Nat.not_lt_zero y)⟩ (fun j σ H' hj hI => ?_) (fun σ H' hI => ?_)
    · obtain ⟨o4, o5, o6, rfl, sa, hno⟩ := hI
      rw [show (0 : Int) + (j : Int) = (j : Int) by omega]
      have hp2 : SqT K H' p [.int a, .int b, .int c] := same_tup sa hp'
      fail "sx"
      refine ⟨⟨by omega, by omega⟩, ?_⟩
      fail "sx"
      refine ⟨r3, r4, fun H2 s2 => ?_⟩
      fail "rd"
      have eG : isq ((4 * c * n).fdiv (-dsc (a, b, c)) + 1) + 1 = farM c n (-dsc (a, b, c)) := rfl
      rw [eG]
      have hasI : ∀ (i : Nat), i < (2 * farM c n (-dsc (a, b, c)) + 1).toNat → Int.gcd ((i : Int) - farM c n (-dsc (a, b, c))) (j : Int) = 1 → valM (a, b, c) ((i : Int) - farM c n (-dsc (a, b, c))) (j : Int) = n → hasM (a, b, c) n = true := by
        intro i hi g1 g2
        unfold hasM
        rw [List.any_eq_true]
        refine ⟨j, List.mem_range.mpr hj, ?_⟩
        rw [List.any_eq_true]
        refine ⟨i, List.mem_range.mpr hi, ?_⟩
        simp only
        rw [decide_eq_true g1, decide_eq_true g2]
        rfl
      refine ⟨⟨by omega, by omega, by omega, by omega⟩, ?_⟩
      rw [show (farM c n (-dsc (a, b, c)) + 1 - -farM c n (-dsc (a, b, c))).toNat = (2 * farM c n (-dsc (a, b, c)) + 1).toNat by omega]
      refine for_range (lo := -farM c n (-dsc (a, b, c))) (n := (2 * farM c n (-dsc (a, b, c)) + 1).toNat) (fun i σ H' => ∃ o6, σ = [some (.ref p), some (.int n), some (.int (-dsc (a, b, c))), some (.int (farM a n (-dsc (a, b, c)))), some (.int (j : Int)), some (.int (farM c n (-dsc (a, b, c)))), o6] ∧ Same H H' ∧
          ∀ x : Nat, x < i → (decide (Int.gcd ((x : Int) - farM c n (-dsc (a, b, c))) (j : Int) = 1) && decide (valM (a, b, c) ((x : Int) - farM c n (-dsc (a, b, c))) (j : Int) = n)) = false)
        ⟨o6, rfl, sa.trans s2, fun y hy => absurd hy (Nat.not_lt_zero y)⟩ (fun i σ H' hi hI => ?_) (fun σ H' hI => ?_)
      · obtain ⟨o6, rfl, sb, hnx⟩ := hI
        have hasI := hasI i hi
        rw [show -farM c n (-dsc (a, b, c)) + (i : Int) = (i : Int) - farM c n (-dsc (a, b, c)) by omega]
        have hx : ((i : Int) - farM c n (-dsc (a, b, c))).natAbs ≤ 1000 := by omega
        have hy : (j : Int).natAbs ≤ 1000 := by omega
        have nxt : (decide (Int.gcd ((i : Int) - farM c n (-dsc (a, b, c))) (j : Int) = 1) && decide (valM (a, b, c) ((i : Int) - farM c n (-dsc (a, b, c))) (j : Int) = n)) = false → ∀ x : Nat, x < i + 1 → (decide (Int.gcd ((x : Int) - farM c n (-dsc (a, b, c))) (j : Int) = 1) && decide (valM (a, b, c) ((x : Int) - farM c n (-dsc (a, b, c))) (j : Int) = n)) = false := fun g x hx => by
          rcases Nat.lt_succ_iff_lt_or_eq.mp hx with h | h
          · exact hnx x h
          · rw [h]; exact g
        generalize (i : Int) - farM c n (-dsc (a, b, c)) = x at *
        fail "rd"
        refine fun H3 s3 => ?_
        fail "rd"
        refine iteE (fun h1 => ?_) (fun h1 => ?_)
        · fail "rd"
          refine ⟨by show 2 ≤ sizeLine; decide, fun T1 t1 => ?_⟩
          fail "rd"
          have s4 := sb.trans (s3.trans (same_new (o := .tup [.int x, .int (j : Int)]) t1))
          refine ⟨p, T1, (a, b, c), x, (j : Int), rfl, same_tup s4 hp, SqT.of upd_same, hS, hx, hy, fun H4 s5 => ?_⟩
          fail "rd"
          refine iteE (fun h2 => ?_) (fun h2 => ?_)
          · fail "rd"
            rw [← hasI (by omega) h2]
            exact k H4 (s4.trans s5)
          · exact ⟨_, rfl, s4.trans s5, nxt (by rw [decide_eq_false h2, Bool.and_false])⟩
        · exact ⟨_, rfl, sb.trans s3, nxt (by rw [decide_eq_false (fun e => h1 (by rw [e]; rfl)), Bool.false_and])⟩
      · obtain ⟨o6, rfl, sb, hnx⟩ := hI
        refine ⟨_, _, _, rfl, sb, fun y hy => ?_⟩
        rcases Nat.lt_succ_iff_lt_or_eq.mp hy with h | h
        · exact hno y h
        · rw [h, List.any_eq_false]
          intro x hx
          rw [List.mem_range] at hx
          rw [hnx x hx]
          decide
    · obtain ⟨o4, o5, o6, rfl, sa, hno⟩ := hI
      fail "rd"
      have : hasM (a, b, c) n = false := by
        unfold hasM
        rw [List.any_eq_false]
        intro y hy
        simp only [List.mem_range] at hy
        rw [hno y hy]
        decide
      rw [← this]
      exact k H' sa
theorem dpa_ints {H : Hp} : ∀ ns : List Int, DpAll K H (ns.map V.int) (ns.map PyData.int)
  | [] => .nil
  | n :: r => .cons (.int n) (dpa_ints r)
theorem shaped_ints (ns : List Int) : SeqAt.shaped (.list (ns.map PyData.int)) = true := by
  have h1 : ∀ ns : List Int, PyData.canLayAll0 (ns.map PyData.int) = true := fun ns => by
    induction ns with
    | nil => rfl
    | cons n r ih => exact ih
  have h2 : ∀ ns : List Int, PyData.depthAll (ns.map PyData.int) ≤ 0 := fun ns => by
    induction ns with
    | nil => simp [PyData.depthAll]
    | cons n r ih => simp only [List.map_cons, PyData.depthAll, PyData.depth]; omega
  unfold SeqAt.shaped
  have h3 : PyData.canLay0 (.list (ns.map PyData.int)) = true := h1 ns
  have h4 : PyData.depth (.list (ns.map PyData.int)) ≤ 64 := by
    have := h2 ns
    show PyData.depthAll (ns.map PyData.int) + 1 ≤ 64
    omega
  rw [h3, decide_eq_true h4]
  rfl
theorem eqv_nil (ns : List Int) : PyData.eqv (.list (ns.map PyData.int)) (.list []) = ns.isEmpty := by
  cases ns with
  | nil => rfl
  | cons n r => rfl
/-- some x leaves the rest of the discriminant -/
def sqM (D n : Int) : Bool := (List.range (4 * n.natAbs)).any fun (x : Nat) => decide (((x : Int) * x - D) % (4 * (n.natAbs : Int)) = 0)
def spSqr : Sp := fun vs H Q _ => ∃ D n : Int, vs = [.int D, .int n] ∧ n ≠ 0 ∧ n.natAbs ≤ 60 ∧ ∀ H', Same H H' → Q (.bl (sqM D n)) H'
theorem ok_law_is_square_rest (T : Tx K mg) (F : FnP K "_law_is_square_rest" s_law_is_square_rest f fd) : FnOk P w K mg base CX0 1 f fd ps_law_is_square_rest spSqr := by
  refine F.ok sc_law_is_square_rest (fun vs H Q E h => ?_) (fun cdv A outer s H vs Q E hr h => ?_)
  · obtain ⟨D, n, rfl, _⟩ := h
    rfl
  · obtain ⟨D, n, rfl, n0, n1, k⟩ := h
    refine ⟨_, PSs.nox (pss_cons (ps_set (i := 2) sc_law_is_square_rest.nd rfl (by first | exact Or.inl rfl | exact Or.inr rfl) (pe_op op_mul pe_int (pe_callB call_abs (by rfl) T.b_abs (by decide +kernel) (pa_cons (pv 1) pa_nil))))
    (pss_one (ps_ret (pe_cmpR (k_ne (K := K) rfl hr.units) (pe_lc (own := [("_law_x", 3)]) rfl sc_law_is_square_rest.nd (pi_range1 (by rfl) T.b_range (pa_cons (pv 2) pa_nil)) (blkOk_by (own := [("_law_x", 3)]) (by kernel_rfl)) (fun _ _ _ _ _ => (pg_name (i := 3) sc_law_is_square_rest.nd rfl (by first | exact Or.inl rfl | exact Or.inr rfl))) (fun _ _ _ _ _ => pts_one (pt_cmpR op_eq (pe_op op_mod (pe_callTy call_int1 (by rfl) T.b_int (by decide +kernel) (pa_cons (pe_op op_sub (pe_op op_mul (pv 3) (pv 3)) (pv 0)) pa_nil)) (pv 2)) pe_int (nomark _))) (fun _ _ _ _ _ => (pv 3))) (pe_lst pa_nil) (nomark _))))), ?_⟩
    have m4 : Sm 4 := ⟨by decide, by decide⟩
    have ea : (if n < 0 then -n else n) = ((n.natAbs : Nat) : Int) := by split <;> omega
    fail "rd"
    rw [ea]
    refine ⟨.inl m4, ?_⟩
    fail "rd"
    refine ⟨by omega, by omega, fun Dn hDn => ?_⟩
    rw [show (4 * ((n.natAbs : Nat) : Int)).toNat = 4 * n.natAbs by omega]
    refine lc_range (lo := 0) (n := 4 * n.natAbs) (fun i H' => ∃ ns : List Int, Same H H' ∧ H' Dn = some (.lst (ns.map V.int)) ∧ ns.length ≤ i ∧ (ns.isEmpty = !((List.range i).any fun (x : Nat) => decide (((x : Int) * x - D) % (4 * (n.natAbs : Int)) = 0))))
      ⟨[], same_new hDn, upd_same, Nat.le_refl _, rfl⟩ (fun i H' hi hI => ?_) (fun H' hI => ?_)
    · obtain ⟨ns, sa, hd, hl, he⟩ := hI
      have mi : Sm (i : Int) := ⟨by omega, by omega⟩
      rw [show (0 : Int) + (i : Int) = (i : Int) by omega]
      fail "sx"
      refine ⟨by omega, ?_⟩
      fail "rd"
      have ha : ((List.range (i + 1)).any fun (x : Nat) => decide (((x : Int) * x - D) % (4 * (n.natAbs : Int)) = 0)) = (((List.range i).any fun (x : Nat) => decide (((x : Int) * x - D) % (4 * (n.natAbs : Int)) = 0)) || decide (((i : Int) * i - D) % (4 * (n.natAbs : Int)) = 0)) := by
        rw [List.range_succ, List.any_append]
        simp
      refine iteE (fun h1 => ?_) (fun h1 => ?_)
      · fail "rd"
        refine ⟨_, hd, Nat.lt_of_le_of_lt (show (ns.map V.int).length ≤ 1000 by rw [List.length_map]; omega) (by decide), ns ++ [(i : Int)], same_mut sa hDn, by rw [upd_same, List.map_append]; rfl, by rw [List.length_append]; show ns.length + 1 ≤ i + 1; omega, ?_⟩
        rw [ha, decide_eq_true h1, Bool.or_true]
        cases ns <;> rfl
      · refine ⟨ns, sa, hd, by omega, ?_⟩
        rw [ha, decide_eq_false h1, Bool.or_false]
        exact he
    · obtain ⟨ns, sa, hd, hl, he⟩ := hI
      fail "rd"
      refine ⟨Nat.zero_le _, fun e hee => ?_⟩
      refine ⟨.list (ns.map PyData.int), .list [], .lst (SqL.of ((same_new hee) _ _ hd)) (dpa_ints ns), .lst (SqL.of upd_same) .nil, shaped_ints _, rfl, ?_⟩
      rw [eqv_nil, he, Bool.not_not]
      exact k _ (sa.trans (same_new hee))
structure spWhole (vs : List V) (H : Hp) (Q : VK) (E : XK) : Prop where
  ex : ∃ p lo hi, vs = [.ref p, .int lo, .int hi] ∧ Jar H p ∧ ((lo = -400 ∧ hi = -3) ∨ (lo = 5 ∧ hi = 400)) ∧ ∀ H' D, (∀ b u, b ≠ p → H b = some u → H' b = some u) → Jar H' p → lo ≤ D → D ≤ hi → isD D = true → Q (.int D) H'
theorem ok_law_whole (T : Tx K mg) (C_law_dip : Cal P w K mg base 1 "_law_dip" ps_law_dip spDip) (C_law_is_discriminant : Cal P w K mg base 2 "_law_is_discriminant" ps_law_is_discriminant spIsD) (F : FnP K "_law_whole" s_law_whole f fd) : FnOk P w K mg base CX0 3 f fd ps_law_whole spWhole := by
  refine F.ok sc_law_whole (fun vs H Q E h => ?_) (fun cdv A outer s H vs Q E hr h => ?_)
  · obtain ⟨p, lo, hi, rfl, _⟩ := h
    rfl
  · obtain ⟨p, lo, hi, rfl, hj, hb, k⟩ := h
    refine ⟨_, PSs.nox (pss_cons (ps_set (i := 3) sc_law_whole.nd rfl (Or.inl rfl) (pe_op op_add (pv 1) (pe_cal C_law_dip hr (pa_cons (pv 0) (pa_cons (pe_op op_add (pe_op op_sub (pv 2) (pv 1)) pe_int) pa_nil)))))
    (pss_cons (ps_while PassesOwn.never (pt_not (pt_val (pe_cal C_law_is_discriminant hr (pa_cons (pv 3) pa_nil))))
    (pss_one (ps_set (i := 3) sc_law_whole.nd rfl (Or.inl rfl) (pe_ifExp (pt_cmpR op_lt (pv 3) (pv 2) (nomark _)) (pe_op op_add (pv 3) pe_int) (pe_ifExp (pt_cmpR op_gt (pv 1) pe_int (nomark _)) pe_int (pe_un un_neg pe_int))))))
    (pss_one (ps_ret (pv 3))))), ?_⟩
    fail "rd"
    refine ⟨hj, by omega, by omega, fun H1 r e1 hj1 r0 r1 => ?_⟩
    fail "rd"
    have i5 : isD 5 = true := by decide +kernel
    have i3 : isD (-3) = true := by decide +kernel
    refine ⟨fun m σ H' => ∃ D, σ = [some (.ref p), some (.int lo), some (.int hi), some (.int D)] ∧ (∀ b u, b ≠ p → H b = some u → H' b = some u) ∧ Jar H' p ∧ lo ≤ D ∧ D ≤ hi ∧ ((m = (hi - D).toNat + 1) ∨ (isD D = true)),
      ⟨_, lo + r, rfl, e1, hj1, by omega, by omega, .inl rfl⟩, ?_⟩
    rintro m σ H' ⟨D, rfl, ha, hj', d0, d1, hm⟩
    fail "rd"
    refine fun H2 s2 => ?_
    fail "rd"
    have ha2 : ∀ b u, b ≠ p → H b = some u → H2 b = some u := fun b u nb hu => s2 b u (ha b u nb hu)
    have hj2 : Jar H2 p := by
      obtain ⟨x, y, z, h1, h2⟩ := hj'
      exact ⟨x, y, z, s2 _ _ h1, h2⟩
    refine iteB (fun e => ?_) (fun e => ?_)
    rotate_left
    · fail "rd"
      exact k H2 D ha2 hj2 d0 d1 (by simpa using e)
    · have e : isD D = false := by simpa using e
      refine ⟨_, fun _ _ h => h, ?_⟩
      have hm : m = (hi - D).toNat + 1 := by
        rcases hm with h | h
        · exact h
        · rw [e] at h; cases h
      fail "rd"
      refine iteD (fun h1 => ?_) (fun h1 => ?_)
      · fail "rd"
        exact ⟨_, by omega, D + 1, rfl, ha2, hj2, by omega, by omega, .inl rfl⟩
      · fail "rd"
        refine iteD (fun h2 => ?_) (fun h2 => ?_)
        · fail "rd"
          exact ⟨0, by omega, 5, rfl, ha2, hj2, by omega, by omega, .inr i5⟩
        · fail "rd"
          exact ⟨0, by omega, -3, rfl, ha2, hj2, by omega, by omega, .inr i3⟩
theorem cut_any (xs : List V) (j : Nat) : cutV xs none (some (j : Int)) = xs.take j := by
  rcases Nat.le_total j xs.length with h | h
  · exact cut_lo h
  · unfold cutV
    have e : HT.sIx xs.length xs.length (some (j : Int)) = xs.length := by
      rw [HT.sIx_nat]
      omega
    rw [e]
    have e2 : HT.sIx xs.length 0 none = 0 := rfl
    rw [e2, List.drop_zero, Nat.sub_zero, List.take_length, List.take_of_length_le h]
structure spJar (K : PySem.W.Frag) (vs : List V) (H : Hp) (Q : VK) (E : XK) : Prop where
  ex : ∃ p i, vs = [.ref p, .int i] ∧ ∃ ns : List Int, SqL K H p (ns.map V.int) ∧ 0 ≤ i ∧ i ≤ 4 ∧ ns.length ≤ 1000 ∧ ∀ H' q, Same H H' → H q = none → Jar H' q → Q (.ref q) H'
theorem ok_law_jar (T : Tx K mg) (F : FnP K "_law_jar" s_law_jar f fd) : FnOk P w K mg base CX0 1 f fd ps_law_jar (spJar K) := by
  refine F.ok sc_law_jar (fun vs H Q E h => ?_) (fun cdv A outer s H vs Q E hr h => ?_)
  · obtain ⟨p, i, rfl, _⟩ := h
    rfl
  · obtain ⟨p, i, rfl, ns, hp, i0, i4, hl, k⟩ := h
    refine ⟨_, PSs.nox (pss_cons (ps_set (i := 2) sc_law_jar.nd rfl (Or.inl rfl) (pe_ifExp (pt_cmpR op_lt (pv 1) (pe_callB (k_len (K := K) rfl) (by rfl) T.b_len (by decide +kernel) (pa_cons (pv 0) pa_nil)) (nomark _)) (pe_ix (k_ixl (K := K) rfl) (pv 0) (pv 1) (fun _ _ => rfl)) (pe_op op_add (pe_op op_mul pe_int (pv 1)) pe_int)))
    (pss_cons (ps_set (i := 3) sc_law_jar.nd rfl (Or.inl rfl) (pe_op op_add pe_int (pe_op op_mul pe_int (pv 1))))
    (pss_cons (ps_for PassesOwn.never rfl (k_pl (K := K) rfl (pe_op op_cat (pe_slice (k_slL (K := K) rfl) (pv 0) po_none (po_some pe_int)) (pe_lst (pa_cons (pv 2) pa_nil)))) (pg_name (i := 4) sc_law_jar.nd rfl (by first | exact Or.inl rfl | exact Or.inr rfl))
    (pss_one (ps_set (i := 3) sc_law_jar.nd rfl (Or.inl rfl) (pe_op op_mod (pe_callTy call_int1 (by rfl) T.b_int (by decide +kernel) (pa_cons (pe_op op_add (pe_op op_mul (pv 3) pe_int) (pv 4)) pa_nil)) pe_int))))
    (pss_one (ps_ret (pe_lst (pa_cons (pe_ifExp (PW.pt (pw_or (pt_cmpR op_lt (pv 2) pe_int (nomark _)) (pw_or1 (pt_cmpR op_ge (pv 2) (pe_op op_pow pe_int pe_int) (nomark _))))) (pe_callB call_abs (by rfl) T.b_abs (by decide +kernel) (pa_cons (pv 2) pa_nil)) pe_int) (pa_cons (pv 3) (pa_cons pe_int pa_nil))))))))), ?_⟩
    have m9 : Sm 9011 := ⟨by decide, by decide⟩
    have m24 : Sm 24007 := ⟨by decide, by decide⟩
    have m53 : Sm 53 := ⟨by decide, by decide⟩
    fail "rd"
    refine ⟨p, _, rfl, .inl hp, ?_⟩
    fail "rd"
    refine iteD (fun h1 => ?_) (fun h1 => ?_)
    · rw [List.length_map] at h1
      have hget : (ns.map V.int)[i.toNat]? = some (.int ns[i.toNat]) := by
        rw [List.getElem?_map, List.getElem?_eq_getElem (by omega)]
        rfl
      generalize ns[i.toNat] = v at hget
      fail "rd"
      refine ⟨p, _, i, .int v, rfl, rfl, hp, ?_, ?_⟩
      · unfold atI ixN
        rw [if_pos i0, if_pos (by rw [List.length_map]; exact h1)]
        exact hget
      · fail "rd"
        refine ⟨.inl m9, ?_⟩
        fail "rd"
        refine ⟨p, _, rfl, hp, ?_⟩
        fail "rd"
        refine fun S1 t1 => ?_
        rw [show cutV (ns.map V.int) none (some 5) = (ns.take 5).map V.int by rw [show (5 : Int) = ((5 : Nat) : Int) from rfl, cut_any, List.map_take]]
        fail "rd"
        refine ⟨by show 1 ≤ sizeLine; decide, fun S2 t2 => ?_⟩
        have nn := (nw t2).1
        refine ⟨S1, S2, _, _, rfl, rfl, (upd_ne nn.2).trans upd_same, upd_same, Nat.le_trans (show _ ≤ 100000 by rw [List.length_map, List.length_take]; show min 5 ns.length + 1 ≤ 100000; omega) (by decide), fun S3 t3 => ?_⟩
        have sH : Same H (upd (upd (upd H S1 (.lst ((ns.take 5).map V.int))) S2 (.lst [.int v])) S3 (.lst ((ns.take 5).map V.int ++ [.int v]))) := (same_new t1).trans ((same_new t2).trans (same_new t3))
        fail "rd"
        refine ⟨⟨_, SqL.of upd_same⟩, ?_⟩
        refine for_list (K := K) (a := S3) (xs := (ns.take 5 ++ [v]).map V.int) (fun j σ H' => ∃ m o, σ = [some (.ref p), some (.int i), some (.int v), some (.int m), o] ∧ Same H H' ∧ SqL K H' S3 ((ns.take 5 ++ [v]).map V.int) ∧ 0 ≤ m ∧ m < 2147483648)
          ⟨_, none, rfl, sH, by rw [List.map_append]; exact SqL.of upd_same, by omega, by omega⟩ (fun j σ H' _ hI => by obtain ⟨_, _, _, _, g, _⟩ := hI; exact g) (fun j x σ H' hx hI => ?_) (fun σ H' hI => ?_)
        · obtain ⟨m, o, rfl, sa, hL, g0, g1⟩ := hI
          obtain ⟨e, he, rfl⟩ : ∃ e, (ns.take 5 ++ [v])[j]? = some e ∧ x = V.int e := by
            rw [List.getElem?_map] at hx
            cases q : (ns.take 5 ++ [v])[j]? with
            | none => rw [q] at hx; cases hx
            | some e => rw [q] at hx; exact ⟨e, rfl, (Option.some.inj hx).symm⟩
          fail "rd"
          refine ⟨.inr m24, ?_⟩
          fail "rd"
          refine .inl ⟨_, rfl, ?_⟩
          fail "rd"
          refine ⟨(by decide : (0 : Int) < 2147482709), ?_⟩
          refine ⟨_, _, rfl, sa, hL, Int.emod_nonneg _ (by decide), ?_⟩
          exact Int.lt_trans (Int.emod_lt_of_pos _ (show (0 : Int) < 2147482709 by decide)) (by decide)
        · obtain ⟨m, o, rfl, sa, hL, g0, g1⟩ := hI
          fail "rd"
          refine iteD (fun h2 => ?_) (fun h2 => ?_)
          · fail "rd"
            refine ⟨by show 3 ≤ sizeLine; decide, fun q hq => ?_⟩
            exact k _ q (sa.trans (same_new hq)) (same_none sa hq) ⟨_, m, 0, upd_same, g0, g1, by decide⟩
          · fail "rd"
            refine ⟨⟨by decide, by decide, by decide⟩, ?_⟩
            fail "rd"
            refine iteD (fun h3 => ?_) (fun h3 => ?_)
            · fail "rd"
              refine ⟨by show 3 ≤ sizeLine; decide, fun q hq => ?_⟩
              exact k _ q (sa.trans (same_new hq)) (same_none sa hq) ⟨_, m, 0, upd_same, g0, g1, by decide⟩
            · fail "rd"
              refine ⟨by show 3 ≤ sizeLine; decide, fun q hq => ?_⟩
              exact k _ q (sa.trans (same_new hq)) (same_none sa hq) ⟨_, m, 0, upd_same, g0, g1, by decide⟩
    · fail "rd"
      refine ⟨.inl m53, ?_⟩
      fail "rd"
      dsimp only
      generalize 53 * i + 8 = v at *
      refine ⟨.inl m9, ?_⟩
      fail "rd"
      refine ⟨p, _, rfl, hp, ?_⟩
      fail "rd"
      refine fun S1 t1 => ?_
      rw [show cutV (ns.map V.int) none (some 5) = (ns.take 5).map V.int by rw [show (5 : Int) = ((5 : Nat) : Int) from rfl, cut_any, List.map_take]]
      fail "rd"
      refine ⟨by show 1 ≤ sizeLine; decide, fun S2 t2 => ?_⟩
      have nn := (nw t2).1
      refine ⟨S1, S2, _, _, rfl, rfl, (upd_ne nn.2).trans upd_same, upd_same, Nat.le_trans (show _ ≤ 100000 by rw [List.length_map, List.length_take]; show min 5 ns.length + 1 ≤ 100000; omega) (by decide), fun S3 t3 => ?_⟩
      have sH : Same H (upd (upd (upd H S1 (.lst ((ns.take 5).map V.int))) S2 (.lst [.int v])) S3 (.lst ((ns.take 5).map V.int ++ [.int v]))) := (same_new t1).trans ((same_new t2).trans (same_new t3))
      fail "rd"
      refine ⟨⟨_, SqL.of upd_same⟩, ?_⟩
      refine for_list (K := K) (a := S3) (xs := (ns.take 5 ++ [v]).map V.int) (fun j σ H' => ∃ m o, σ = [some (.ref p), some (.int i), some (.int v), some (.int m), o] ∧ Same H H' ∧ SqL K H' S3 ((ns.take 5 ++ [v]).map V.int) ∧ 0 ≤ m ∧ m < 2147483648)
        ⟨_, none, rfl, sH, by rw [List.map_append]; exact SqL.of upd_same, by omega, by omega⟩ (fun j σ H' _ hI => by obtain ⟨_, _, _, _, g, _⟩ := hI; exact g) (fun j x σ H' hx hI => ?_) (fun σ H' hI => ?_)
      · obtain ⟨m, o, rfl, sa, hL, g0, g1⟩ := hI
        obtain ⟨e, he, rfl⟩ : ∃ e, (ns.take 5 ++ [v])[j]? = some e ∧ x = V.int e := by
          rw [List.getElem?_map] at hx
          cases q : (ns.take 5 ++ [v])[j]? with
          | none => rw [q] at hx; cases hx
          | some e => rw [q] at hx; exact ⟨e, rfl, (Option.some.inj hx).symm⟩
        fail "rd"
        refine ⟨.inr m24, ?_⟩
        fail "rd"
        refine .inl ⟨_, rfl, ?_⟩
        fail "rd"
        refine ⟨(by decide : (0 : Int) < 2147482709), ?_⟩
        refine ⟨_, _, rfl, sa, hL, Int.emod_nonneg _ (by decide), ?_⟩
        exact Int.lt_trans (Int.emod_lt_of_pos _ (show (0 : Int) < 2147482709 by decide)) (by decide)
      · obtain ⟨m, o, rfl, sa, hL, g0, g1⟩ := hI
        fail "rd"
        refine iteD (fun h2 => ?_) (fun h2 => ?_)
        · fail "rd"
          refine ⟨by show 3 ≤ sizeLine; decide, fun q hq => ?_⟩
          exact k _ q (sa.trans (same_new hq)) (same_none sa hq) ⟨_, m, 0, upd_same, g0, g1, by decide⟩
        · fail "rd"
          refine ⟨⟨by decide, by decide, by decide⟩, ?_⟩
          fail "rd"
          refine iteD (fun h3 => ?_) (fun h3 => ?_)
          · fail "rd"
            refine ⟨by show 3 ≤ sizeLine; decide, fun q hq => ?_⟩
            exact k _ q (sa.trans (same_new hq)) (same_none sa hq) ⟨_, m, 0, upd_same, g0, g1, by decide⟩
          · fail "rd"
            refine ⟨by show 3 ≤ sizeLine; decide, fun q hq => ?_⟩
            exact k _ q (sa.trans (same_new hq)) (same_none sa hq) ⟨_, m, 0, upd_same, g0, g1, by decide⟩
end
end G41
set_option Elab.async false
set_option linter.all false
set_option maxRecDepth 100000
set_option maxHeartbeats 4000000
namespace G41
open PySem PySem.Spec PyProof.Rows L2
/-! a def with a default, a call by keywords alone; a Form among Forms -/
structure CalD (P : Program) (w : World) (K : PySem.W.Frag) (mg : Str → Option Value) (base : Heap) (k : Nat) (x : Str) (ps : List Str) (dvs : List V) (sp : Sp) : Prop where
  ex : ∃ f fd ds, FnOk P w K mg base CX0 k f fd ps sp ∧ mg x = some (.ref f) ∧ PySem.W.keepIn K (.ref f) = true ∧ Binds K fd ps ds ∧ Vals dvs ds
structure CalK (P : Program) (w : World) (K : PySem.W.Frag) (mg : Str → Option Value) (base : Heap) (k : Nat) (x : Str) (ps ks : List Str) (g : List Value → List Value → List Value) (gV : List V → List V → List V) (sp : Sp) : Prop where
  ex : ∃ f fd, FnOk P w K mg base CX0 k f fd ps sp ∧ mg x = some (.ref f) ∧ PySem.W.keepIn K (.ref f) = true ∧ KBinds K fd ps ks g gV
/-- two keywords, the other way round -/
def swV {α : Type} (us ws : List α) : List α := match us, ws with
  | [], [a, b] => [b, a]
  | _, _ => []
section
variable {X : Cx} {k j : Nat} {x : Str} {ps ks : List Str} {sp : Sp} {dvs : List V} {p pos : Pos} {e : Expr} {es : List Expr} {t tk : TA}
theorem pe_calD (C : CalD X.prog X.w X.K X.mg X.base k x ps dvs sp) (hr : Room j X.A) (ha : PA X (e :: es) t) (hj : k ≤ j := by decide) (hg : Gl X x := by rfl)
    (hdb : (x == ("__debug__" : Str)) = false := by decide) (he : starEach (e :: es) X.env = (false, eval e X.env) :: starEach es X.env := by rfl)
    (hpl : (backTo pos (starEach es X.env)).any (·.1) = false := by rfl) : PE X (.Call (.Name x p) (e :: es) [] pos) (tCall sp dvs E0 t) := by
  obtain ⟨f, fd, ds, F, m, kp, b, v⟩ := C.ex
  exact pe_call F (hr.mono hj) hg m kp b v pass0 ha hdb he hpl
theorem pe_calK {g : List Value → List Value → List Value} {gV : List V → List V → List V} {kws : List Keyword} (C : CalK X.prog X.w X.K X.mg X.base k x ps ks g gV sp) (hr : Room j X.A) (hkw : PK X kws tk) (hj : k ≤ j := by decide) (hg : Gl X x := by rfl)
    (hall : (backToKw pos (keywordEach kws X.env)).all (·.1.isSome) = true := by rfl) (hks : (backToKw pos (keywordEach kws X.env)).filterMap (·.1) = ks := by rfl) (hdb : (x == ("__debug__" : Str)) = false := by decide)
    (hpl : ((backTo pos (starEach [] X.env)).any (·.1) || (backToKw pos (keywordEach kws X.env)).any (·.1.isNone)) = false := by rfl) : PE X (.Call (.Name x p) [] kws pos) (tCallK sp gV E0 tNil tk) := by
  obtain ⟨f, fd, F, m, kp, b⟩ := C.ex
  refine ⟨fun pins s σ H Q I h => wpAny_Call_Name_kw (ld_glob I hg m ?_ hdb)⟩
  refine PySem.W.callWith_KW0 (h₀ := X.base) I.ok.mod.kin kp hall (thn (hkw.run pos pins s σ H _ I h) fun ws s2 ⟨zs, H2, I2, rz, q2⟩ => ⟨I2.kIn, ?_⟩) hpl
  rw [hks]
  exact run_fnk (us := []) (vs := []) F (hr.mono hj) b pass0 I2 .nil rz q2
end
theorem sw_binds {K : PySem.W.Frag} {y qual : Str} {params : Arguments} {body : List Stmt} {scope : Scope} {f : Addr} {fd : FuncData} {ps ks : List Str} (F : FunD K y qual params body scope [] [] f fd) (hp : ps.length = 2)
    (h : ∀ (kV doc pm : Value) (an : Option Addr) (cdv ct : Value) (a b : Value), bindArgs (PySem.W.fnOf y qual params body scope .none kV doc pm an cdv ct) ⟨[], ks.zip [a, b]⟩ = pure (ps.zip [b, a])) : KBinds K fd ps ks swV swV := by
  obtain ⟨oc, od, dV, kV, doc, pm, an, cdv, ct, osl, rfl, lk, hcd, hD, hK⟩ := F.ex
  rcases hD with ⟨_, rfl⟩ | ⟨e, _⟩
  · refine ⟨fun s us ws _ hl => ?_, fun {vs us zs ws} hv hz => ?_⟩
    · match us, ws, hl with
      | [], [a, b], _ => exact .of_eq (h kV doc pm an cdv ct a b)
      | [], [], hl => rw [hp] at hl; cases hl
      | [], [_], hl => rw [hp] at hl; cases hl
      | [], _ :: _ :: _ :: _, hl => rw [hp] at hl; cases hl
      | _ :: _, _, hl => rw [hp] at hl; cases hl
    · match hv, hz with
      | .nil, .nil => exact .nil
      | .nil, .cons _ .nil => exact .nil
      | .nil, .cons a (.cons b .nil) => exact .cons b (.cons a .nil)
      | .nil, .cons _ (.cons _ (.cons _ _)) => exact .nil
      | .cons _ _, _ => exact .nil
  · exact absurd rfl e
end G41
set_option Elab.async false
set_option linter.all false
set_option maxRecDepth 100000
set_option maxHeartbeats 4000000
namespace G41
open PySem PySem.Spec PyProof.Rows L2
abbrev s_reduced_forms : Stmt := top 64
abbrev nm_reduced_forms : List Str := ["whole", "is_any", "found", "most", "b", "product", "a", "some", "form"]
abbrev ps_reduced_forms : List Str := ["whole", "is_any"]
theorem sc_reduced_forms : FnScope nm_reduced_forms ps_reduced_forms (defScope s_reduced_forms) := ⟨rfl, rfl, rfl, by decide +kernel, rfl, by decide +kernel, by decide +kernel⟩
local macro_rules | `(tactic| fail "rd1") => `(tactic| first
  | refine ⟨_, rfl, ?_⟩
  | refine ⟨_, _, rfl, rfl, ?_⟩
  | refine ⟨rfl, ?_⟩
  | refine ⟨_, _, rfl, ?_⟩
  | refine ⟨_, _, _, rfl, ?_⟩
  | fail)
local macro_rules | `(tactic| fail "rd") => `(tactic| repeat (fail "rd1"))
local macro_rules | `(tactic| fail "nn") => `(tactic| first
  | with_reducible assumption
  | (apply lkn; fail "ne"; fail "nn")
  | (apply none_same; with_reducible assumption; fail "sm"))
local macro_rules | `(tactic| fail "ne") => `(tactic| first
  | with_reducible assumption
  | exact (old_ne (by with_reducible assumption) (by with_reducible assumption)).1
  | exact (old_ne (by with_reducible assumption) (by with_reducible assumption)).2
  | (apply ne_new1; with_reducible assumption; fail "lk")
  | (apply ne_new2; with_reducible assumption; fail "lk"))
local macro_rules | `(tactic| fail "lk") => `(tactic| first
  | with_reducible assumption
  | exact upd_same
  | (apply lkn; fail "ne"; fail "lk")
  | (apply same_upd; with_reducible assumption; fail "lk"))
local macro_rules | `(tactic| fail "sm") => `(tactic| first
  | with_reducible assumption
  | exact Same.refl _
  | (apply same_mut; fail "sm"; fail "nn")
  | (apply trans_same; with_reducible assumption; fail "sm"))
local macro_rules | `(tactic| fail "sl") => `(tactic| first
  | with_reducible assumption
  | (apply lst_same; with_reducible assumption; fail "sm")
  | (apply SqL.of; fail "lk")
  | (apply lst_new; fail "nn"; fail "sl")
  | (apply lst_updn; fail "ne"; fail "sl")
  | (apply lst_trans; with_reducible assumption; fail "sl"))
local macro_rules | `(tactic| fail "st") => `(tactic| first
  | with_reducible assumption
  | (apply tup_same; with_reducible assumption; fail "sm")
  | (apply SqT.of; fail "lk")
  | (apply tup_new; fail "nn"; fail "st")
  | (apply tup_upd; fail "lk"; fail "st")
  | (apply tup_trans; with_reducible assumption; fail "st")
  | (apply tup_updI; fail "lk"; fail "st"))
local macro_rules | `(tactic| fail "nw") => `(tactic| (repeat (refine nwI (fun _ _ => ?_))); refine fun _ => ?_)
local macro_rules | `(tactic| fail "ln") => `(tactic| first
  | exact lenLt (Nat.le_of_ble_eq_true rfl)
  | exact Nat.le_of_ble_eq_true rfl)
local macro_rules | `(tactic| fail "un") => `(tactic| first
  | apply un_lcR
  | (refine un_lc2 2 ?_)
  | (apply un_lcL; fail "sl")
  | (apply un_lcT; fail "st")
  | (apply un_lcZ; fail "sl")
  | (apply un_lcZT; fail "st")
  | (apply un_lcZM; fail "sl"))
local macro_rules | `(tactic| fail "uf") => `(tactic| first
  | apply un_forR
  | (apply un_forL; fail "sl")
  | (apply un_forT; fail "st")
  | (apply un_forZ; fail "sl")
  | (apply un_forZT; fail "st")
  | (apply un_forZM; fail "sl")
  | (apply un_forE; fail "st"))
local macro_rules | `(tactic| fail "ns") => `(tactic| try simp only [wipe, L2.start, List.set_cons_zero, List.set_cons_succ, List.map_cons, List.map_nil, List.length_cons, List.length_nil, List.replicate_succ, List.replicate_zero, List.cons_append, List.nil_append, Nat.reduceAdd, Nat.reduceSub])
local macro_rules | `(tactic| fail "da") => `(tactic| first
  | exact DpAll.nil
  | (apply DpAll.cons; (first | exact Dp.int _ | (apply Dp.tup; fail "st"; fail "da") | (apply Dp.lst; fail "sl"; fail "da") | exact Dp.bl _ | exact Dp.str _); fail "da"))
local macro_rules | `(tactic| fail "dp") => `(tactic| first
  | exact Dp.int _
  | (apply Dp.tup; fail "st"; fail "da")
  | (apply Dp.lst; fail "sl"; fail "da"))
local macro_rules | `(tactic| fail "so") => `(tactic| first
  | (apply sx_upd; fail "so")
  | (apply sx_mut; fail "so"; fail "nn")
  | (apply sx_of; fail "sm"))
local macro_rules | `(tactic| fail "lg") => `(tactic| (refine PyProof.Rows.int_text_len_1921 (lg_small ?_); omega))
local macro_rules | `(tactic| fail "sx1") => `(tactic| (conv => whnf); first
  | (refine fun _ => ?_; fail "nw"; first | fail "un" | skip)
  | (refine fun _ => ?_)
  | (refine wipe_1 (by decide) ?_; fail "ns")
  | (refine wipe_2 (by decide) (by decide) ?_; fail "ns")
  | (refine ⟨_, rfl, ?_⟩)
  | (refine ⟨rfl, ?_⟩)
  | (refine ⟨_, _, rfl, rfl, ?_⟩)
  | (refine ⟨_, _, rfl, ?_⟩)
  | (refine ⟨_, _, _, rfl, ?_⟩)
  | apply un_forR
  | (apply un_forL; fail "sl")
  | (apply un_forT; fail "st")
  | (apply un_forZ; fail "sl")
  | (apply un_forZT; fail "st")
  | (apply un_forZM; fail "sl")
  | (apply un_forE; fail "st")
  | apply un_inR
  | (apply tyI; fail "sl")
  | (apply dpI; fail "dp"; fail "dp"; rfl; rfl)
  | (apply gtI; fail "st"; rfl)
  | apply isi_ii
  | apply isi_ib
  | (apply isi_tt; fail "st")
  | refine divN1 ?_
  | (apply nx_range; exact Nat.le_of_ble_eq_true rfl)
  | (apply nx_list; fail "sl"; rfl)
  | (apply nx_tup; fail "st"; rfl)
  | (apply nx_zip; fail "sl"; fail "sl"; rfl; rfl)
  | (apply nx_zipT; fail "st"; fail "st"; rfl; rfl)
  | (apply nx_zipM; fail "sl"; fail "st"; rfl; rfl)
  | (apply nx_enumT; fail "st"; rfl)
  | (apply st_range; fail "ln")
  | (apply st_list; fail "sl"; fail "ln")
  | (apply st_tup; fail "st"; fail "ln")
  | (apply st_zip; fail "sl"; fail "sl"; fail "ln")
  | (apply st_zipT; fail "st"; fail "st"; fail "ln")
  | (apply st_zipM; fail "sl"; fail "st"; rfl; rfl)
  | (apply st_enumT; fail "st"; rfl)
  | (apply mulR; with_reducible assumption)
  | (apply mulL; with_reducible assumption)
  | (apply accI; fail "lk"; fail "ln")
  | (apply apdI; fail "lk"; fail "ln")
  | (apply ixLI; fail "sl"; rfl)
  | (apply ixTI; fail "st"; rfl)
  | (apply setI; fail "lk"; rfl)
  | (apply slLI; fail "sl")
  | (apply sum2I; fail "sl")
  | (apply rep2I; fail "lk"; exact Nat.le_of_ble_eq_true rfl)
  | (refine And.intro (lg_small ?_) ?_; omega)
  | (apply joinI3; fail "sl"; fail "lg"; fail "lg"; fail "lg"; decide)
  | (apply enI; fail "st")
  | (apply enL; fail "sl")
  | (apply ppL; fail "sl")
  | (apply ppT; fail "st")
  | (apply pqL; fail "sl")
  | (apply pqT; fail "st")
  | (apply pzL; fail "sl"; fail "sl")
  | (apply pzT; fail "st"; fail "st")
  | (apply pzM; fail "sl"; fail "st")
  | (refine Or.inl ⟨_, rfl, ?_⟩)
  | (refine Or.inr ⟨_, rfl, ?_⟩)
  | (apply pxL; fail "sl")
  | (apply pxT; fail "st")
  | (refine iteTI rfl ?_)
  | (refine iteFI Bool.false_ne_true ?_)
  | (refine iteTI ?_ ?_; (simp [*]; done))
  | (refine iteFI ?_ ?_; (simp [*]; done))
  | (refine And.intro ?_ ?_; first | decide | (simp only [List.length_append, List.length_cons, List.length_nil]; decide)))
local macro_rules | `(tactic| fail "sx") => `(tactic| repeat (fail "sx1"))
local macro_rules | `(tactic| fail "tx1") => `(tactic| (conv => whnf); first
  | (refine fun _ => ?_; fail "nw")
  | (refine fun _ => ?_)
  | (refine wipe_1 (by decide) ?_; fail "ns")
  | (refine wipe_2 (by decide) (by decide) ?_; fail "ns")
  | (refine ⟨_, rfl, ?_⟩)
  | (refine ⟨rfl, ?_⟩)
  | (refine ⟨_, _, rfl, rfl, ?_⟩)
  | (refine ⟨_, _, rfl, ?_⟩)
  | (refine ⟨_, _, _, rfl, ?_⟩)
  | apply un_forR
  | (apply un_forL; fail "sl")
  | (apply un_forT; fail "st")
  | (apply un_forZ; fail "sl")
  | (apply un_forZT; fail "st")
  | (apply un_forZM; fail "sl")
  | (apply un_forE; fail "st")
  | apply un_inR
  | (apply tyI; fail "sl")
  | (apply dpI; fail "dp"; fail "dp"; rfl; rfl)
  | (apply gtI; fail "st"; rfl)
  | apply isi_ii
  | apply isi_ib
  | (apply isi_tt; fail "st")
  | refine divN1 ?_
  | (apply nx_range; exact Nat.le_of_ble_eq_true rfl)
  | (apply nx_list; fail "sl"; rfl)
  | (apply nx_tup; fail "st"; rfl)
  | (apply nx_zip; fail "sl"; fail "sl"; rfl; rfl)
  | (apply nx_zipT; fail "st"; fail "st"; rfl; rfl)
  | (apply nx_zipM; fail "sl"; fail "st"; rfl; rfl)
  | (apply nx_enumT; fail "st"; rfl)
  | (apply st_range; fail "ln")
  | (apply st_list; fail "sl"; fail "ln")
  | (apply st_tup; fail "st"; fail "ln")
  | (apply st_zip; fail "sl"; fail "sl"; fail "ln")
  | (apply st_zipT; fail "st"; fail "st"; fail "ln")
  | (apply st_zipM; fail "sl"; fail "st"; rfl; rfl)
  | (apply st_enumT; fail "st"; rfl)
  | (apply mulR; with_reducible assumption)
  | (apply mulL; with_reducible assumption)
  | (apply accI; fail "lk"; fail "ln")
  | (apply apdI; fail "lk"; fail "ln")
  | (apply ixLI; fail "sl"; rfl)
  | (apply ixTI; fail "st"; rfl)
  | (apply setI; fail "lk"; rfl)
  | (apply slLI; fail "sl")
  | (apply sum2I; fail "sl")
  | (apply rep2I; fail "lk"; exact Nat.le_of_ble_eq_true rfl)
  | (refine And.intro (lg_small ?_) ?_; omega)
  | (apply joinI3; fail "sl"; fail "lg"; fail "lg"; fail "lg"; decide)
  | (apply enI; fail "st")
  | (apply enL; fail "sl")
  | (apply ppL; fail "sl")
  | (apply ppT; fail "st")
  | (apply pqL; fail "sl")
  | (apply pqT; fail "st")
  | (apply pzL; fail "sl"; fail "sl")
  | (apply pzT; fail "st"; fail "st")
  | (apply pzM; fail "sl"; fail "st")
  | (refine Or.inl ⟨_, rfl, ?_⟩)
  | (refine Or.inr ⟨_, rfl, ?_⟩)
  | (apply pxL; fail "sl")
  | (apply pxT; fail "st")
  | (refine iteTI rfl ?_)
  | (refine iteFI Bool.false_ne_true ?_)
  | (refine iteTI ?_ ?_; (simp [*]; done))
  | (refine iteFI ?_ ?_; (simp [*]; done))
  | (refine And.intro ?_ ?_; first | decide | (simp only [List.length_append, List.length_cons, List.length_nil]; decide)))
local macro_rules | `(tactic| fail "tx") => `(tactic| repeat (fail "tx1"))
local macro_rules | `(tactic| fail "om") => `(tactic| first
  | omega
  | (dsimp only; omega)
  | (split <;> omega)
  | (dsimp only; split <;> omega))
local macro_rules | `(tactic| fail "bx1") => `(tactic| first
  | (refine iteD (fun _ => ?_) (fun _ => ?_))
  | (refine iteN (fun _ => ?_) (fun _ => ?_))
  | (refine iteE (fun _ => ?_) (fun _ => ?_))
  | (refine iteTI rfl ?_)
  | (refine iteFI Bool.false_ne_true ?_)
  | (refine ⟨_, rfl, ?_⟩)
  | (refine ⟨_, _, rfl, rfl, ?_⟩)
  | (refine ⟨rfl, ?_⟩)
  | (refine ⟨_, _, rfl, ?_⟩)
  | (apply mulR; with_reducible assumption)
  | (apply mulL; with_reducible assumption)
  | (apply mulL; refine ⟨?_, ?_⟩ <;> fail "om")
  | (apply powI; fail "om"))
local macro_rules | `(tactic| fail "bx") => `(tactic| repeat' (fail "bx1"))

/-- a reduced form of the discriminant, without a common divisor -/
def inRF (D : Int) (x : T3) : Prop := redM x = true ∧ dsc x = D ∧ gcd3 x = 1
theorem isD_nsq {D : Int} (h5 : 5 ≤ D) (h : D ≤ 400) (hD : isD D = true) : nsqD D ∧ D % 4 ≤ 1 := by
  unfold isD at hD
  simp only [Bool.and_eq_true, decide_eq_true_eq, Bool.not_eq_true', Bool.and_eq_false_iff, decide_eq_false_iff_not] at hD
  obtain ⟨⟨⟨_, _⟩, h1⟩, h2⟩ := hD
  exact ⟨⟨h5, h, by rcases h2 with h2 | h2; · omega
                    · exact h2⟩, h1⟩
theorem inRF_ab {D : Int} {x : T3} (hp : nsqD D) (h : inRF D x) : 0 < x.2.1 ∧ x.2.1 * x.2.1 < D ∧ x.2.1 ≤ isq D ∧ (x.1.natAbs : Int) * x.2.2.natAbs * 4 = D - x.2.1 * x.2.1 ∧ ((0 < x.1 ∧ x.2.2 < 0) ∨ (x.1 < 0 ∧ 0 < x.2.2)) := by
  obtain ⟨h1, h2, h3⟩ := h
  have hp' : nsqD (dsc x) := by rw [h2]; exact hp
  obtain ⟨q1, q2, q3⟩ := nsq_lt hp' h1
  rw [h2] at q2
  obtain ⟨a, b, c⟩ := x
  have e : b * b - 4 * a * c = D := h2
  show 0 < b ∧ b * b < D ∧ b ≤ isq D ∧ (a.natAbs : Int) * c.natAbs * 4 = D - b * b ∧ ((0 < a ∧ c < 0) ∨ (a < 0 ∧ 0 < c))
  replace q1 : 0 < b := q1
  replace q2 : b * b < D := q2
  have hac : 4 * a * c < 0 := by omega
  have hs : (0 < a ∧ c < 0) ∨ (a < 0 ∧ 0 < c) := by
    rcases Int.lt_trichotomy a 0 with z | z | z
    · refine .inr ⟨z, Int.not_le.mp fun h => ?_⟩
      have : 0 ≤ 4 * a * c := Int.mul_nonneg_of_nonpos_of_nonpos (by omega) h
      omega
    · rw [z] at hac; omega
    · refine .inl ⟨z, Int.not_le.mp fun h => ?_⟩
      have : 0 ≤ 4 * a * c := Int.mul_nonneg (by omega) h
      omega
  refine ⟨q1, q2, ?_, ?_, hs⟩
  · have h5 := isq_ok (v := D) (by have := hp.1; omega) (by have := hp.2.1; omega)
    have h0 := isq_nn D
    refine Int.not_lt.mp fun h => ?_
    have : (isq D + 1) * (isq D + 1) ≤ b * b := Int.mul_le_mul (by omega) (by omega) (by omega) (by omega)
    omega
  · rcases hs with ⟨z1, z2⟩ | ⟨z1, z2⟩
    · rw [show ((a.natAbs : Nat) : Int) = a by omega, show ((c.natAbs : Nat) : Int) = -c by omega]
      have : a * -c * 4 = -(4 * a * c) := by grind
      omega
    · rw [show ((a.natAbs : Nat) : Int) = -a by omega, show ((c.natAbs : Nat) : Int) = c by omega]
      have : -a * c * 4 = -(4 * a * c) := by grind
      omega
theorem fs_app {K : PySem.W.Frag} {C : Addr} {H : Hp} : ∀ {bl : List (Addr × T3)} {fs : List Addr} {ts : List T3}, FsAt K C H fs ts → (∀ b ∈ bl, FormAt K C H b.1 b.2) → FsAt K C H (fs ++ bl.map (·.1)) (ts ++ bl.map (·.2))
  | [], fs, ts, h, _ => by simpa using h
  | b :: bl, fs, ts, h, h2 => by
    have := fs_app (bl := bl) (fs_add h (h2 b List.mem_cons_self)) fun c hc => h2 c (List.mem_cons_of_mem _ hc)
    simpa using this
section
variable {P : Program} {w : World} {K : PySem.W.Frag} {mg : Str → Option Value} {base : Heap} {f : Addr} {fd : FuncData} {C : Addr}
structure spRF (K : PySem.W.Frag) (C : Addr) (vs : List V) (H : Hp) (Q : VK) (E : XK) : Prop where
  ex : ∃ D, vs = [.int D, .bl false] ∧ 5 ≤ D ∧ D ≤ 400 ∧ isD D = true ∧ ∀ H' q fs ts, Same H H' → H q = none → H' q = some (.lst (fs.map V.ref)) → FsAt K C H' fs ts → (∀ x, x ∈ ts ↔ inRF D x) → ts.length ≤ 1000 → Q (.ref q) H'
theorem ok_reduced_forms (T : Tx K mg) (CF : MkF P w K mg base C) (CP_content : PrpF P w K mg base C "content" 3 ps_Form_content (spCont K C)) (C_root_of : Cal P w K mg base 1 "root_of" ps_root_of spRoot)
    (C_divisors_of : Cal P w K mg base 1 "divisors_of" ps_divisors_of spDivs) (C_is_reduced_form : Cal P w K mg base 4 "is_reduced_form" ps_is_reduced_form (spRed K C))
    (F : FunD K "reduced_forms" "reduced_forms" (defArgs s_reduced_forms) (defBody s_reduced_forms) (defScope s_reduced_forms) [.bl false] [] f fd) : FnOk P w K mg base CX0 8 f fd ps_reduced_forms (spRF K C) := by
  refine F.ok sc_reduced_forms (fun vs H Q E h => ?_) (fun cdv A outer s H vs Q E hr h => ?_)
  · obtain ⟨D, rfl, _⟩ := h
    rfl
  · obtain ⟨D, rfl, D5, D4, hD, k⟩ := h
    refine ⟨_, PSs.nox (pss_cons (ps_set (i := 2) sc_reduced_forms.nd rfl (Or.inl rfl) (pe_lst pa_nil))
    (pss_cons (ps_set (i := 3) sc_reduced_forms.nd rfl (Or.inl rfl) (pe_ifExp (pt_cmpR op_gt (pv 0) pe_int (nomark _)) (pe_cal C_root_of hr (pa_cons (pv 0) pa_nil)) (pe_cal C_root_of hr (pa_cons (pe_op op_fdivN (pe_un un_neg (pv 0)) pe_int) pa_nil))))
    (pss_cons (ps_for PassesOwn.never rfl (pi_range2 (by rfl) T.b_range (pa_cons (pe_ifExp (pt_cmpR op_lt (pv 0) pe_int (nomark _)) (pe_un un_neg (pv 3)) pe_int) (pa_cons (pe_op op_add (pv 3) pe_int) pa_nil))) (pg_name (i := 4) sc_reduced_forms.nd rfl (by first | exact Or.inl rfl | exact Or.inr rfl))
    (pss_one (ps_if (pt_cmpR op_eq (pe_op op_mod (pe_op op_sub (pv 4) (pv 0)) pe_int) pe_int (nomark _))
    (pss_cons (ps_set (i := 5) sc_reduced_forms.nd rfl (Or.inl rfl) (pe_op op_fdivN (pe_op op_sub (pe_op op_mul (pv 4) (pv 4)) (pv 0)) pe_int))
    (pss_one (ps_for PassesOwn.never rfl (k_pl (K := K) rfl (pe_cal C_divisors_of hr (pa_cons (pe_callB call_abs (by rfl) T.b_abs (by decide +kernel) (pa_cons (pv 5) pa_nil)) pa_nil))) (pg_name (i := 6) sc_reduced_forms.nd rfl (by first | exact Or.inl rfl | exact Or.inr rfl))
    (pss_cons (ps_set (i := 7) sc_reduced_forms.nd rfl (Or.inl rfl) (pe_lst (pa_cons (pe_form CF hr (pa_cons (pe_tup (pa_cons (pv 6) (pa_cons (pv 4) (pa_cons (pe_op op_fdivN (pv 5) (pv 6)) pa_nil)))) pa_nil)) pa_nil)))
    (pss_cons (ps_if (pt_cmpR op_gt (pv 0) pe_int (nomark _))
    (pss_one (ps_expr (pe_bm PySem.F.plainAttrs_list PySem.F.slot_list_append PySem.F.type_list_append mt_append (pv 7) (pa_cons (pe_form CF hr (pa_cons (pe_tup (pa_cons (pe_un un_neg (pv 6)) (pa_cons (pv 4) (pa_cons (pe_op op_fdivN (pe_un un_neg (pv 5)) (pv 6)) pa_nil)))) pa_nil)) pa_nil))))
    pss_nil)
    (pss_one (ps_expr (pe_bm PySem.F.plainAttrs_list PySem.F.slot_list_extend PySem.F.type_list_extend mt_extend (pv 2) (pa_cons (pe_lc (own := [("form", 8)]) rfl sc_reduced_forms.nd (k_pl (K := K) rfl (pv 7)) (blkOk_by (own := [("form", 8)]) (by kernel_rfl)) (fun _ _ _ _ _ => (pg_name (i := 8) sc_reduced_forms.nd rfl (by first | exact Or.inl rfl | exact Or.inr rfl))) (fun _ _ _ _ _ => pts_one (PW.pt (pw_and (pt_val (pe_cal C_is_reduced_form hr (pa_cons (pv 8) pa_nil))) (pw_and1 (PW.pt (pw_or (pt_val (pv 1)) (pw_or1 (pt_cmpR op_eq (pe_prp CP_content hr (pv 8)) pe_int (nomark _))))))))) (fun _ _ _ _ _ => (pv 8))) pa_nil)))))))))
    pss_nil)))
    (pss_one (ps_ret (pv 2)))))), ?_⟩
    obtain ⟨hnq, hD1⟩ := isD_nsq D5 D4 hD
    have w0 := isq_nn D
    have w1 := isq_ok (v := D) (by omega) (by omega)
    have w2 : isq D ≤ 20 := by
      refine Int.not_lt.mp fun h => ?_
      have : 21 * 21 ≤ isq D * isq D := Int.mul_le_mul h h (by omega) (by omega)
      omega
    have w3 : isq D * isq D ≠ D := hnq.2.2
    fail "rd"
    refine ⟨by decide, fun q hq => ?_⟩
    fail "rd"
    refine iteTI (decide_eq_true (by omega)) ?_
    fail "rd"
    refine ⟨by omega, by omega, fun H1 s1 => ?_⟩
    fail "rd"
    refine iteFI (by simp; omega) ?_
    fail "rd"
    refine ⟨⟨by decide, by decide, by omega, by omega⟩, ?_⟩
    rw [show (isq D + 1 - 1).toNat = (isq D).toNat by omega]
    refine for_range (lo := 1) (n := (isq D).toNat) (fun i σ H' => ∃ o4 o5 o6 o7 o8 fs ts, σ = [some (.int D), some (.bl false), some (.ref q), some (.int (isq D)), o4, o5, o6, o7, o8] ∧ Same H H' ∧ H' q = some (.lst (fs.map V.ref)) ∧ FsAt K C H' fs ts ∧ (∀ x, x ∈ ts ↔ (inRF D x ∧ x.2.1 ≤ (i : Int))) ∧ ts.length ≤ 40 * i)
      ⟨none, none, none, none, none, [], [], rfl, (same_new hq).trans s1, s1 _ _ upd_same, ⟨rfl, fun i f t a => by cases a⟩, fun x => ⟨fun h => (nomatch h), fun h => absurd (inRF_ab hnq h.1).1 (by have := h.2; omega)⟩, Nat.zero_le _⟩ (fun i σ H' hi hI => ?_) (fun σ H' hI => ?_)
    · obtain ⟨o4, o5, o6, o7, o8, fs, ts, rfl, sa, hq', hF, hmem, hlen⟩ := hI
      have hb1 : 1 ≤ (1 : Int) + (i : Int) ∧ (1 : Int) + (i : Int) ≤ isq D := by omega
      have hbi : ((i + 1 : Nat) : Int) = 1 + (i : Int) := by omega
      rw [hbi]
      have hmi : ∀ x : T3, (x.2.1 ≤ (i : Int)) ↔ (x.2.1 ≤ 1 + (i : Int) ∧ x.2.1 ≠ 1 + (i : Int)) := fun x => by omega
      have hmem : ∀ x, x ∈ ts ↔ (inRF D x ∧ x.2.1 ≤ 1 + (i : Int) ∧ x.2.1 ≠ 1 + (i : Int)) := fun x => by rw [hmem, hmi]
      have hlen40 : ts.length ≤ 800 := by omega
      generalize (1 : Int) + (i : Int) = b at *
      have mb : Sm b := ⟨by omega, by omega⟩
      have bb1 : b * b ≤ isq D * isq D := Int.mul_le_mul hb1.2 hb1.2 (by omega) (by omega)
      have bb0 : 0 ≤ b * b := Int.mul_nonneg (by omega) (by omega)
      have par : (b % 2 = 0 ∧ (b * b) % 4 = 0) ∨ (b % 2 = 1 ∧ (b * b) % 4 = 1) := by
        rcases Int.emod_two_eq b with h | h
        · obtain ⟨z, rfl⟩ : ∃ z, b = 2 * z := ⟨b / 2, by omega⟩
          have : 2 * z * (2 * z) = 4 * (z * z) := by grind
          omega
        · obtain ⟨z, rfl⟩ : ∃ z, b = 2 * z + 1 := ⟨b / 2, by omega⟩
          have : (2 * z + 1) * (2 * z + 1) = 4 * (z * z + z) + 1 := by grind
          omega
      fail "rd"
      refine ⟨(by decide : (0 : Int) < 2), ?_⟩
      fail "rd"
      refine iteE (fun h1 => ?_) (fun h1 => ?_)
      · replace h1 : (b - D) % 2 = 0 := h1
        obtain ⟨p, hp1, hp2⟩ : ∃ p : Int, D - b * b = 4 * p ∧ 1 ≤ p := ⟨(D - b * b) / 4, by omega, by omega⟩
        have hpr : (b * b - D).fdiv 4 = -p := by
          rw [show b * b - D = 4 * -p by omega]
          exact Int.mul_fdiv_cancel_left _ (by decide)
        fail "rd"
        refine ⟨.inl mb, ?_⟩
        fail "rd"
        refine ⟨⟨by omega, by omega⟩, ?_⟩
        dsimp only
        rw [hpr]
        have hab : (if -p < 0 then - -p else -p) = p := by rw [if_pos (by omega)]; omega
        fail "rd"
        rw [hab]
        refine ⟨hp2, by omega, fun H2 r ns s2 hr0 hr2 hnl hdm => ?_⟩
        have hn20 : ns.length ≤ 20 := by
          obtain ⟨z, z0, z1, z2⟩ := hnl
          have : z ≤ 10 := by
            refine Int.not_lt.mp fun h => ?_
            have : 11 * 11 ≤ z * z := Int.mul_le_mul h h (by omega) (by omega)
            omega
          omega
        fail "rd"
        refine ⟨⟨_, SqL.of hr2⟩, ?_⟩
        refine for_list (K := K) (a := r) (xs := ns.map V.int) (fun j σ H' => ∃ o6 o7 o8 fs ts2, σ = [some (.int D), some (.bl false), some (.ref q), some (.int (isq D)), some (.int b), some (.int (-p)), o6, o7, o8] ∧ Same H H' ∧ H' q = some (.lst (fs.map V.ref)) ∧ FsAt K C H' fs ts2 ∧
            (∀ x, x ∈ ts2 ↔ (x ∈ ts ∨ (inRF D x ∧ x.2.1 = b ∧ ∃ d ∈ ns.take j, (x.1.natAbs : Int) = d))) ∧ ts2.length ≤ ts.length + 2 * j ∧ H' r = some (.lst (ns.map V.int)) ∧ q ≠ r)
          ⟨o6, o7, o8, fs, ts, rfl, sa.trans s2, s2 _ _ hq', fs_same hF s2, fun x => by simp, by omega, hr2, fun e => by rw [← e, hq'] at hr0; cases hr0⟩ (fun j σ H' _ hI => by obtain ⟨_, _, _, _, _, _, _, _, _, _, _, g, _⟩ := hI; exact SqL.of g) (fun j x σ H' hx hI => ?_) (fun σ H' hI => ?_)
        · clear hF hq' sa
          obtain ⟨o6, o7, o8, fs, ts2, rfl, sa, hq', hF, hm2, hl2, hrL, hqr⟩ := hI
          obtain ⟨d, hd, rfl⟩ : ∃ d, ns[j]? = some d ∧ x = V.int d := by
            rw [List.getElem?_map] at hx
            cases e : ns[j]? with
            | none => rw [e] at hx; cases hx
            | some d => rw [e] at hx; exact ⟨d, rfl, (Option.some.inj hx).symm⟩
          have hjl : j < ns.length := (List.getElem?_eq_some_iff.mp hd).1
          obtain ⟨d0, e, e0, hpe⟩ := (hdm d).mp (List.mem_of_getElem? hd)
          have hdp : d ≤ p := by
            have : d * 1 ≤ d * e := Int.mul_le_mul_of_nonneg_left (by omega) (by omega)
            omega
          have hep : e ≤ p := by
            have : 1 * e ≤ d * e := Int.mul_le_mul_of_nonneg_right (by omega) (by omega)
            omega
          have f1 : (-p).fdiv d = -e := by
            rw [hpe, show -(d * e) = d * -e by grind]
            exact Int.mul_fdiv_cancel_left _ (by omega)
          have f2 : (- -p).fdiv d = e := by
            rw [Int.neg_neg, hpe]
            exact Int.mul_fdiv_cancel_left _ (by omega)
          have g1 : dsc (d, b, -e) = D := by
            show b * b - 4 * d * -e = D
            have : 4 * d * -e = -(4 * (d * e)) := by grind
            omega
          have g2 : dsc (-d, b, e) = D := by
            show b * b - 4 * -d * e = D
            have : 4 * -d * e = -(4 * (d * e)) := by grind
            omega
          have ok1 : OkT (d, b, -e) := ⟨by show d ≠ 0; omega, by show d.natAbs ≤ 100000; omega, by show b.natAbs ≤ 100000; omega, by show (-e).natAbs ≤ 100000; omega, fun h => by
            have h : 4 * d * -e = b * b := h
            have h2 : b * b - 4 * d * -e = D := g1
            omega⟩
          have ok2 : OkT (-d, b, e) := ⟨by show -d ≠ 0; omega, by show (-d).natAbs ≤ 100000; omega, by show b.natAbs ≤ 100000; omega, by show e.natAbs ≤ 100000; omega, fun h => by
            have h : 4 * -d * e = b * b := h
            have h2 : b * b - 4 * -d * e = D := g2
            omega⟩
          have sm1 : Sml (d, b, -e) := ⟨ok1.2.1, ok1.2.2.1, ok1.2.2.2.1⟩
          have sm2 : Sml (-d, b, e) := ⟨ok2.2.1, ok2.2.2.1, ok2.2.2.2.1⟩
          fail "rd"
          refine ⟨⟨by omega, by omega⟩, ?_⟩
          dsimp only
          rw [f1]
          fail "rd"
          refine ⟨by show 3 ≤ sizeLine; decide, fun T1 t1 => ?_⟩
          fail "rd"
          refine ⟨T1, (d, b, -e), rfl, upd_same, ok1, fun H4 a1 s4 n4 hF1 => ?_⟩
          fail "rd"
          refine ⟨by show 1 ≤ sizeLine; decide, fun L tl => ?_⟩
          fail "rd"
          refine iteTI (decide_eq_true (by omega)) ?_
          fail "rd"
          refine ⟨.inl ⟨rfl, _, SqL.of upd_same⟩, ?_⟩
          fail "rd"
          refine ⟨⟨by omega, by omega⟩, ?_⟩
          dsimp only
          rw [f2]
          fail "rd"
          refine ⟨by show 3 ≤ sizeLine; decide, fun T2 t2 => ?_⟩
          fail "rd"
          refine ⟨T2, (-d, b, e), rfl, upd_same, ok2, fun H5 a2 s5 n5 hF2 => ?_⟩
          have sA : Same H' H4 := (same_new t1).trans s4
          have sB : Same H4 H5 := (same_new tl).trans ((same_new t2).trans s5)
          have hL5 : H5 L = some (.lst [.ref a1]) := s5 _ _ ((same_new t2) _ _ upd_same)
          have hLq : q ≠ L := fun e => by rw [← e, sA _ _ hq'] at tl; cases tl
          fail "rd"
          refine ⟨_, _, _, rfl, rfl, hL5, by show 1 < sizeLine; decide, ?_⟩
          have hq6 : upd H5 L (.lst ([.ref a1] ++ [.ref a2])) q = some (.lst (fs.map V.ref)) := (upd_ne hLq).trans (sB _ _ (sA _ _ hq'))
          have hF6 : FsAt K C (upd H5 L (.lst ([.ref a1] ++ [.ref a2]))) fs ts2 := fs_upd hL5 (fs_same (fs_same hF sA) sB)
          have hA1 : FormAt K C (upd H5 L (.lst ([.ref a1] ++ [.ref a2]))) a1 (d, b, -e) := form_upd hL5 (form_same hF1 sB)
          have hA2 : FormAt K C (upd H5 L (.lst ([.ref a1] ++ [.ref a2]))) a2 (-d, b, e) := form_upd hL5 hF2
          have hrl : r ≠ L := fun e => by rw [← e, sA _ _ hrL] at tl; cases tl
          have hr6 : upd H5 L (.lst ([.ref a1] ++ [.ref a2])) r = some (.lst (ns.map V.int)) := (upd_ne hrl).trans (sB _ _ (sA _ _ hrL))
          have hL6 : upd H5 L (.lst ([.ref a1] ++ [.ref a2])) L = some (.lst [.ref a1, .ref a2]) := upd_same
          have s6 : Same H (upd H5 L (.lst ([.ref a1] ++ [.ref a2]))) := same_mut (sa.trans (sA.trans sB)) (same_none (sa.trans sA) tl)
          generalize upd H5 L (.lst ([.ref a1] ++ [.ref a2])) = H6 at *
          fail "rd"
          refine ⟨.inl ⟨rfl, _, SqL.of hq6⟩, ?_⟩
          fail "rd"
          refine ⟨⟨_, SqL.of hL6⟩, fun Dn hDn => ?_⟩
          refine lc_filtL (fun b : Addr × T3 => V.ref b.1) [(a1, (d, b, -e)), (a2, (-d, b, e))] (fun b => redM b.2 && decide (gcd3 b.2 = 1)) hDn (SqL.of hL6) (by show 2 ≤ 100000; decide) (fun z hz H7 Qt Qn s7 kt kn => ?_) (fun H7 s7 hd7 => ?_)
          · obtain ⟨hz1, hz2⟩ : FormAt K C H6 z.1 z.2 ∧ Sml z.2 := by
              rcases List.mem_cons.mp hz with rfl | hz
              · exact ⟨hA1, sm1⟩
              · rw [List.mem_singleton.mp hz]
                exact ⟨hA2, sm2⟩
            have hz7 := form_same hz1 s7
            fail "rd"
            refine ⟨⟨z.1, z.2, rfl, hz7, hz2, ?_⟩⟩
            fail "rd"
            refine iteB (fun h2 => ?_) (fun h2 => ?_)
            · fail "rd"
              refine prCont hz7 fun H8 s8 => ?_
              fail "rd"
              refine iteE (fun h3 => ?_) (fun h3 => ?_)
              · fail "rd"
                exact kt (by rw [h2, decide_eq_true (show gcd3 z.2 = 1 by omega)]; rfl) _ s8
              · exact kn (by rw [h2, decide_eq_false (fun q => h3 (by rw [q]; rfl))]; rfl) _ s8
            · exact kn (by rw [h2]; rfl) _ (Same.refl _)
          · have hq7 := s7 _ _ hq6
            have hfl := List.length_filter_le (fun b : Addr × T3 => redM b.2 && decide (gcd3 b.2 = 1)) [(a1, (d, b, -e)), (a2, (-d, b, e))]
            have hfm : ∀ z ∈ ([(a1, (d, b, -e)), (a2, (-d, b, e))] : List (Addr × T3)).filter (fun b => redM b.2 && decide (gcd3 b.2 = 1)), FormAt K C H6 z.1 z.2 := fun z hz => by
              rcases List.mem_cons.mp (List.mem_filter.mp hz).1 with rfl | hz
              · exact hA1
              · rw [List.mem_singleton.mp hz]
                exact hA2
            have hgd : ∀ x, x ∈ (([(a1, (d, b, -e)), (a2, (-d, b, e))] : List (Addr × T3)).filter (fun b => redM b.2 && decide (gcd3 b.2 = 1))).map (·.2) ↔ (inRF D x ∧ x.2.1 = b ∧ (x.1.natAbs : Int) = d) := fun x => by
              constructor
              · intro hx
                obtain ⟨z, hz, rfl⟩ := List.mem_map.mp hx
                obtain ⟨hz1, hz2⟩ := List.mem_filter.mp hz
                obtain ⟨hz3, hz4⟩ := Bool.and_eq_true_iff.mp hz2
                have hz4 := of_decide_eq_true hz4
                rcases List.mem_cons.mp hz1 with rfl | hz1
                · exact ⟨⟨hz3, g1, hz4⟩, rfl, by show (d.natAbs : Int) = d; omega⟩
                · rw [List.mem_singleton.mp hz1] at hz3 hz4 ⊢
                  exact ⟨⟨hz3, g2, hz4⟩, rfl, by show ((-d).natAbs : Int) = d; omega⟩
              · rintro ⟨hx1, hx2, hx3⟩
                obtain ⟨q1, q2, q3, q4, q5⟩ := inRF_ab hnq hx1
                rw [hx2, hx3] at q4
                have q6 : (x.2.2.natAbs : Int) = e := by
                  refine Int.eq_of_mul_eq_mul_left (show d ≠ 0 by omega) ?_
                  have e1 : d * (x.2.2.natAbs : Int) * 4 = 4 * (d * e) := by omega
                  omega
                rw [List.mem_map]
                rcases q5 with ⟨q7, q8⟩ | ⟨q7, q8⟩
                · have ex : x = (d, b, -e) := by
                    obtain ⟨x1, x2, x3⟩ := x
                    simp only at hx2 hx3 q6 q7 q8
                    rw [hx2, show x1 = d by omega, show x3 = -e by omega]
                  refine ⟨(a1, (d, b, -e)), List.mem_filter.mpr ⟨List.mem_cons_self, ?_⟩, ex.symm⟩
                  rw [ex] at hx1
                  simp only [hx1.1, hx1.2.2, decide_true, Bool.and_self]
                · have ex : x = (-d, b, e) := by
                    obtain ⟨x1, x2, x3⟩ := x
                    simp only at hx2 hx3 q6 q7 q8
                    rw [hx2, show x1 = -d by omega, show x3 = e by omega]
                  refine ⟨(a2, (-d, b, e)), List.mem_filter.mpr ⟨List.mem_cons_of_mem _ List.mem_cons_self, ?_⟩, ex.symm⟩
                  rw [ex] at hx1
                  simp only [hx1.1, hx1.2.2, decide_true, Bool.and_self]
            generalize ([(a1, (d, b, -e)), (a2, (-d, b, e))] : List (Addr × T3)).filter (fun b => redM b.2 && decide (gcd3 b.2 = 1)) = bl at *
            have hfl : bl.length ≤ 2 := hfl
            have hfsl : fs.length = ts2.length := hF6.1
            fail "rd"
            refine ⟨q, Dn, _, _, rfl, rfl, hq7, hd7, Nat.le_trans (show _ ≤ 2000 by rw [List.length_map, List.length_map]; omega) (by decide), ?_⟩
            refine ⟨_, _, _, fs ++ bl.map (·.1), ts2 ++ bl.map (·.2), rfl, same_mut (s6.trans s7) hq, ?_, fs_upd hq7 (fs_same (fs_app hF6 hfm) s7), fun x => ?_, ?_, (upd_ne (fun e => hqr e.symm)).trans (s7 _ _ hr6), hqr⟩
            · rw [upd_same, List.map_append, List.map_map]
              rfl
            · rw [List.mem_append, hm2, hgd, List.take_add_one, hd]
              simp only [Option.toList_some, List.mem_append, List.mem_singleton]
              constructor
              · rintro ((h1 | ⟨h1, h2, z, hz, h3⟩) | ⟨h1, h2, h3⟩)
                · exact .inl h1
                · exact .inr ⟨h1, h2, z, .inl hz, h3⟩
                · exact .inr ⟨h1, h2, d, .inr rfl, h3⟩
              · rintro (h1 | ⟨h1, h2, z, hz | hz, h3⟩)
                · exact .inl (.inl h1)
                · exact .inl (.inr ⟨h1, h2, z, hz, h3⟩)
                · exact .inr ⟨h1, h2, by rw [h3, hz]⟩
            · rw [List.length_append, List.length_map]
              omega
        · obtain ⟨o6, o7, o8, fs, ts2, rfl, sa, hq', hF, hm2, hl2, hrL, hqr⟩ := hI
          rw [List.length_map] at hm2 hl2
          rw [List.take_length] at hm2
          refine ⟨_, _, _, _, _, fs, ts2, rfl, sa, hq', hF, fun x => ?_, by omega⟩
          rw [hm2, hmem]
          constructor
          · rintro (⟨h2, h3, _⟩ | ⟨h2, h3, _⟩)
            · exact ⟨h2, h3⟩
            · exact ⟨h2, by omega⟩
          · rintro ⟨h2, h3⟩
            by_cases hb : x.2.1 = b
            · refine .inr ⟨h2, hb, x.1.natAbs, (hdm _).mpr ?_, rfl⟩
              obtain ⟨g1, g2, g3, g4, g5⟩ := inRF_ab hnq h2
              rw [hb] at g4
              refine ⟨by omega, x.2.2.natAbs, by omega, ?_⟩
              omega
            · exact .inl ⟨h2, h3, hb⟩
      · refine ⟨_, _, _, _, _, fs, ts, rfl, sa, hq', hF, fun x => ?_, by omega⟩
        rw [hmem]
        constructor
        · rintro ⟨h2, h3, _⟩
          exact ⟨h2, h3⟩
        · rintro ⟨h2, h3⟩
          refine ⟨h2, h3, fun hb => h1 ?_⟩
          have h4 : x.2.1 * x.2.1 - 4 * x.1 * x.2.2 = D := h2.2.1
          rw [hb] at h4
          have h5 : 4 * x.1 * x.2.2 = 4 * (x.1 * x.2.2) := by grind
          show (b - D) % 2 = 0
          omega
    · obtain ⟨o4, o5, o6, o7, o8, fs, ts, rfl, sa, hq', hF, hmem, hlen⟩ := hI
      fail "rd"
      refine k H' q fs ts sa hq hq' hF (fun x => ?_) (by omega)
      rw [hmem]
      constructor
      · exact fun h => h.1
      · intro h
        refine ⟨h, ?_⟩
        have := (inRF_ab hnq h).2.2.1
        omega
end
end G41
set_option Elab.async false
set_option linter.all false
set_option maxRecDepth 100000
set_option maxHeartbeats 4000000
namespace G41
open PySem PySem.Spec PyProof.Rows L2
abbrev s_class_list : Stmt := top 65
abbrev nm_class_list : List Str := ["whole", "left", "found", "own", "form"]
abbrev ps_class_list : List Str := ["whole"]
theorem sc_class_list : FnScope nm_class_list ps_class_list (defScope s_class_list) := ⟨rfl, rfl, rfl, by decide +kernel, rfl, by decide +kernel, by decide +kernel⟩
abbrev s_classes : Stmt := top 67
abbrev nm_classes : List Str := ["discriminant"]
abbrev ps_classes : List Str := ["discriminant"]
theorem sc_classes : FnScope nm_classes ps_classes (defScope s_classes) := ⟨rfl, rfl, rfl, by decide +kernel, rfl, by decide +kernel, by decide +kernel⟩
local macro_rules | `(tactic| fail "rd1") => `(tactic| first
  | refine ⟨_, rfl, ?_⟩
  | refine ⟨_, _, rfl, rfl, ?_⟩
  | refine ⟨rfl, ?_⟩
  | refine ⟨_, _, rfl, ?_⟩
  | refine ⟨_, _, _, rfl, ?_⟩
  | fail)
local macro_rules | `(tactic| fail "rd") => `(tactic| repeat (fail "rd1"))
local macro_rules | `(tactic| fail "nn") => `(tactic| first
  | with_reducible assumption
  | (apply lkn; fail "ne"; fail "nn")
  | (apply none_same; with_reducible assumption; fail "sm"))
local macro_rules | `(tactic| fail "ne") => `(tactic| first
  | with_reducible assumption
  | exact (old_ne (by with_reducible assumption) (by with_reducible assumption)).1
  | exact (old_ne (by with_reducible assumption) (by with_reducible assumption)).2
  | (apply ne_new1; with_reducible assumption; fail "lk")
  | (apply ne_new2; with_reducible assumption; fail "lk"))
local macro_rules | `(tactic| fail "lk") => `(tactic| first
  | with_reducible assumption
  | exact upd_same
  | (apply lkn; fail "ne"; fail "lk")
  | (apply same_upd; with_reducible assumption; fail "lk"))
local macro_rules | `(tactic| fail "sm") => `(tactic| first
  | with_reducible assumption
  | exact Same.refl _
  | (apply same_mut; fail "sm"; fail "nn")
  | (apply trans_same; with_reducible assumption; fail "sm"))
local macro_rules | `(tactic| fail "sl") => `(tactic| first
  | with_reducible assumption
  | (apply lst_same; with_reducible assumption; fail "sm")
  | (apply SqL.of; fail "lk")
  | (apply lst_new; fail "nn"; fail "sl")
  | (apply lst_updn; fail "ne"; fail "sl")
  | (apply lst_trans; with_reducible assumption; fail "sl"))
local macro_rules | `(tactic| fail "st") => `(tactic| first
  | with_reducible assumption
  | (apply tup_same; with_reducible assumption; fail "sm")
  | (apply SqT.of; fail "lk")
  | (apply tup_new; fail "nn"; fail "st")
  | (apply tup_upd; fail "lk"; fail "st")
  | (apply tup_trans; with_reducible assumption; fail "st")
  | (apply tup_updI; fail "lk"; fail "st"))
local macro_rules | `(tactic| fail "nw") => `(tactic| (repeat (refine nwI (fun _ _ => ?_))); refine fun _ => ?_)
local macro_rules | `(tactic| fail "ln") => `(tactic| first
  | exact lenLt (Nat.le_of_ble_eq_true rfl)
  | exact Nat.le_of_ble_eq_true rfl)
local macro_rules | `(tactic| fail "un") => `(tactic| first
  | apply un_lcR
  | (refine un_lc2 2 ?_)
  | (apply un_lcL; fail "sl")
  | (apply un_lcT; fail "st")
  | (apply un_lcZ; fail "sl")
  | (apply un_lcZT; fail "st")
  | (apply un_lcZM; fail "sl"))
local macro_rules | `(tactic| fail "uf") => `(tactic| first
  | apply un_forR
  | (apply un_forL; fail "sl")
  | (apply un_forT; fail "st")
  | (apply un_forZ; fail "sl")
  | (apply un_forZT; fail "st")
  | (apply un_forZM; fail "sl")
  | (apply un_forE; fail "st"))
local macro_rules | `(tactic| fail "ns") => `(tactic| try simp only [wipe, L2.start, List.set_cons_zero, List.set_cons_succ, List.map_cons, List.map_nil, List.length_cons, List.length_nil, List.replicate_succ, List.replicate_zero, List.cons_append, List.nil_append, Nat.reduceAdd, Nat.reduceSub])
local macro_rules | `(tactic| fail "da") => `(tactic| first
  | exact DpAll.nil
  | (apply DpAll.cons; (first | exact Dp.int _ | (apply Dp.tup; fail "st"; fail "da") | (apply Dp.lst; fail "sl"; fail "da") | exact Dp.bl _ | exact Dp.str _); fail "da"))
local macro_rules | `(tactic| fail "dp") => `(tactic| first
  | exact Dp.int _
  | (apply Dp.tup; fail "st"; fail "da")
  | (apply Dp.lst; fail "sl"; fail "da"))
local macro_rules | `(tactic| fail "so") => `(tactic| first
  | (apply sx_upd; fail "so")
  | (apply sx_mut; fail "so"; fail "nn")
  | (apply sx_of; fail "sm"))
local macro_rules | `(tactic| fail "lg") => `(tactic| (refine PyProof.Rows.int_text_len_1921 (lg_small ?_); omega))
local macro_rules | `(tactic| fail "sx1") => `(tactic| (conv => whnf); first
  | (refine fun _ => ?_; fail "nw"; first | fail "un" | skip)
  | (refine fun _ => ?_)
  | (refine wipe_1 (by decide) ?_; fail "ns")
  | (refine wipe_2 (by decide) (by decide) ?_; fail "ns")
  | (refine ⟨_, rfl, ?_⟩)
  | (refine ⟨rfl, ?_⟩)
  | (refine ⟨_, _, rfl, rfl, ?_⟩)
  | (refine ⟨_, _, rfl, ?_⟩)
  | (refine ⟨_, _, _, rfl, ?_⟩)
  | apply un_forR
  | (apply un_forL; fail "sl")
  | (apply un_forT; fail "st")
  | (apply un_forZ; fail "sl")
  | (apply un_forZT; fail "st")
  | (apply un_forZM; fail "sl")
  | (apply un_forE; fail "st")
  | apply un_inR
  | (apply tyI; fail "sl")
  | (apply dpI; fail "dp"; fail "dp"; rfl; rfl)
  | (apply gtI; fail "st"; rfl)
  | apply isi_ii
  | apply isi_ib
  | (apply isi_tt; fail "st")
  | refine divN1 ?_
  | (apply nx_range; exact Nat.le_of_ble_eq_true rfl)
  | (apply nx_list; fail "sl"; rfl)
  | (apply nx_tup; fail "st"; rfl)
  | (apply nx_zip; fail "sl"; fail "sl"; rfl; rfl)
  | (apply nx_zipT; fail "st"; fail "st"; rfl; rfl)
  | (apply nx_zipM; fail "sl"; fail "st"; rfl; rfl)
  | (apply nx_enumT; fail "st"; rfl)
  | (apply st_range; fail "ln")
  | (apply st_list; fail "sl"; fail "ln")
  | (apply st_tup; fail "st"; fail "ln")
  | (apply st_zip; fail "sl"; fail "sl"; fail "ln")
  | (apply st_zipT; fail "st"; fail "st"; fail "ln")
  | (apply st_zipM; fail "sl"; fail "st"; rfl; rfl)
  | (apply st_enumT; fail "st"; rfl)
  | (apply mulR; with_reducible assumption)
  | (apply mulL; with_reducible assumption)
  | (apply accI; fail "lk"; fail "ln")
  | (apply apdI; fail "lk"; fail "ln")
  | (apply ixLI; fail "sl"; rfl)
  | (apply ixTI; fail "st"; rfl)
  | (apply setI; fail "lk"; rfl)
  | (apply slLI; fail "sl")
  | (apply sum2I; fail "sl")
  | (apply rep2I; fail "lk"; exact Nat.le_of_ble_eq_true rfl)
  | (refine And.intro (lg_small ?_) ?_; omega)
  | (apply joinI3; fail "sl"; fail "lg"; fail "lg"; fail "lg"; decide)
  | (apply enI; fail "st")
  | (apply enL; fail "sl")
  | (apply ppL; fail "sl")
  | (apply ppT; fail "st")
  | (apply pqL; fail "sl")
  | (apply pqT; fail "st")
  | (apply pzL; fail "sl"; fail "sl")
  | (apply pzT; fail "st"; fail "st")
  | (apply pzM; fail "sl"; fail "st")
  | (refine Or.inl ⟨_, rfl, ?_⟩)
  | (refine Or.inr ⟨_, rfl, ?_⟩)
  | (apply pxL; fail "sl")
  | (apply pxT; fail "st")
  | (refine iteTI rfl ?_)
  | (refine iteFI Bool.false_ne_true ?_)
  | (refine iteTI ?_ ?_; (simp [*]; done))
  | (refine iteFI ?_ ?_; (simp [*]; done))
  | (refine And.intro ?_ ?_; first | decide | (simp only [List.length_append, List.length_cons, List.length_nil]; decide)))
local macro_rules | `(tactic| fail "sx") => `(tactic| repeat (fail "sx1"))
local macro_rules | `(tactic| fail "tx1") => `(tactic| (conv => whnf); first
  | (refine fun _ => ?_; fail "nw")
  | (refine fun _ => ?_)
  | (refine wipe_1 (by decide) ?_; fail "ns")
  | (refine wipe_2 (by decide) (by decide) ?_; fail "ns")
  | (refine ⟨_, rfl, ?_⟩)
  | (refine ⟨rfl, ?_⟩)
  | (refine ⟨_, _, rfl, rfl, ?_⟩)
  | (refine ⟨_, _, rfl, ?_⟩)
  | (refine ⟨_, _, _, rfl, ?_⟩)
  | apply un_forR
  | (apply un_forL; fail "sl")
  | (apply un_forT; fail "st")
  | (apply un_forZ; fail "sl")
  | (apply un_forZT; fail "st")
  | (apply un_forZM; fail "sl")
  | (apply un_forE; fail "st")
  | apply un_inR
  | (apply tyI; fail "sl")
  | (apply dpI; fail "dp"; fail "dp"; rfl; rfl)
  | (apply gtI; fail "st"; rfl)
  | apply isi_ii
  | apply isi_ib
  | (apply isi_tt; fail "st")
  | refine divN1 ?_
  | (apply nx_range; exact Nat.le_of_ble_eq_true rfl)
  | (apply nx_list; fail "sl"; rfl)
  | (apply nx_tup; fail "st"; rfl)
  | (apply nx_zip; fail "sl"; fail "sl"; rfl; rfl)
  | (apply nx_zipT; fail "st"; fail "st"; rfl; rfl)
  | (apply nx_zipM; fail "sl"; fail "st"; rfl; rfl)
  | (apply nx_enumT; fail "st"; rfl)
  | (apply st_range; fail "ln")
  | (apply st_list; fail "sl"; fail "ln")
  | (apply st_tup; fail "st"; fail "ln")
  | (apply st_zip; fail "sl"; fail "sl"; fail "ln")
  | (apply st_zipT; fail "st"; fail "st"; fail "ln")
  | (apply st_zipM; fail "sl"; fail "st"; rfl; rfl)
  | (apply st_enumT; fail "st"; rfl)
  | (apply mulR; with_reducible assumption)
  | (apply mulL; with_reducible assumption)
  | (apply accI; fail "lk"; fail "ln")
  | (apply apdI; fail "lk"; fail "ln")
  | (apply ixLI; fail "sl"; rfl)
  | (apply ixTI; fail "st"; rfl)
  | (apply setI; fail "lk"; rfl)
  | (apply slLI; fail "sl")
  | (apply sum2I; fail "sl")
  | (apply rep2I; fail "lk"; exact Nat.le_of_ble_eq_true rfl)
  | (refine And.intro (lg_small ?_) ?_; omega)
  | (apply joinI3; fail "sl"; fail "lg"; fail "lg"; fail "lg"; decide)
  | (apply enI; fail "st")
  | (apply enL; fail "sl")
  | (apply ppL; fail "sl")
  | (apply ppT; fail "st")
  | (apply pqL; fail "sl")
  | (apply pqT; fail "st")
  | (apply pzL; fail "sl"; fail "sl")
  | (apply pzT; fail "st"; fail "st")
  | (apply pzM; fail "sl"; fail "st")
  | (refine Or.inl ⟨_, rfl, ?_⟩)
  | (refine Or.inr ⟨_, rfl, ?_⟩)
  | (apply pxL; fail "sl")
  | (apply pxT; fail "st")
  | (refine iteTI rfl ?_)
  | (refine iteFI Bool.false_ne_true ?_)
  | (refine iteTI ?_ ?_; (simp [*]; done))
  | (refine iteFI ?_ ?_; (simp [*]; done))
  | (refine And.intro ?_ ?_; first | decide | (simp only [List.length_append, List.length_cons, List.length_nil]; decide)))
local macro_rules | `(tactic| fail "tx") => `(tactic| repeat (fail "tx1"))
local macro_rules | `(tactic| fail "om") => `(tactic| first
  | omega
  | (dsimp only; omega)
  | (split <;> omega)
  | (dsimp only; split <;> omega))
local macro_rules | `(tactic| fail "bx1") => `(tactic| first
  | (refine iteD (fun _ => ?_) (fun _ => ?_))
  | (refine iteN (fun _ => ?_) (fun _ => ?_))
  | (refine iteE (fun _ => ?_) (fun _ => ?_))
  | (refine iteTI rfl ?_)
  | (refine iteFI Bool.false_ne_true ?_)
  | (refine ⟨_, rfl, ?_⟩)
  | (refine ⟨_, _, rfl, rfl, ?_⟩)
  | (refine ⟨rfl, ?_⟩)
  | (refine ⟨_, _, rfl, ?_⟩)
  | (apply mulR; with_reducible assumption)
  | (apply mulL; with_reducible assumption)
  | (apply mulL; refine ⟨?_, ?_⟩ <;> fail "om")
  | (apply powI; fail "om"))
local macro_rules | `(tactic| fail "bx") => `(tactic| repeat' (fail "bx1"))

section
variable {K : PySem.W.Frag} {a : Addr} {xs : List V} {g : TG} {tk tv : TE} {vs : List Nat} {σ : L2.St} {H1 : Hp} {D : Addr} {Qd : Hp → Prop}
theorem dcT_list (Pv : Nat → Hp → Prop) (h0 : Pv 0 (upd H1 D (.dT []))) (hl : ∀ i H, Pv i H → SqL K H a xs)
    (step : ∀ i x H, xs[i]? = some x → Pv i H → g x (wipe σ vs) H fun σ2 H2 => wipe σ2 vs = wipe σ vs ∧ tk σ2 H2 fun y H3 => tv σ2 H3 fun z H4 => ∃ b kvs k, y = .ref b ∧ H4 b = some (.tup (k.map kV)) ∧ H4 D = some (.dT kvs) ∧ kvs.length < sizeLine ∧ Pv (i + 1) (upd H4 D (.dT (putK kvs k z))))
    (fin : ∀ H, Pv xs.length H → Qd H) : ∃ W : Nat → Nat → Hp → Prop, (∃ m, W 0 m (upd H1 D (.dT []))) ∧ ∀ i m G, W i m G →
      ((Itl K a).stop i G ∧ Qd G) ∨ ((Itl K a).go i G ∧ ∃ Nx : Hp → Prop, (∀ G', Nx G' → ∃ m', m' < m ∧ W (i + 1) m' G') ∧ ∀ x G', (Itl K a).yld i G x G' → g x (wipe σ vs) G' fun σ2 G2 => wipe σ2 vs = wipe σ vs ∧
        tk σ2 G2 fun y G3 => tv σ2 G3 fun z G4 => ∃ b kvs k, y = .ref b ∧ G4 b = some (.tup (k.map kV)) ∧ G4 D = some (.dT kvs) ∧ kvs.length < sizeLine ∧ Nx (upd G4 D (.dT (putK kvs k z)))) := by
  refine ⟨fun i m G => i + m = xs.length ∧ Pv i G, ⟨xs.length, Nat.zero_add _, h0⟩, fun i m G hW => ?_⟩
  obtain ⟨him, hp⟩ := hW
  have sq := hl i G hp
  cases m with
  | zero =>
    have e : i = xs.length := by omega
    subst e
    exact Or.inl ⟨⟨xs, sq, Nat.le_refl _⟩, fin G hp⟩
  | succ m =>
    have lt : i < xs.length := by omega
    refine Or.inr ⟨⟨xs, xs[i], sq, List.getElem?_eq_getElem lt⟩, fun G' => Pv (i + 1) G', fun G' hG => ⟨m, Nat.lt_succ_self m, by omega, hG⟩, fun x G' hy => ?_⟩
    obtain ⟨e, hy⟩ := hy
    subst e
    exact step i x _ (hy xs sq) hp
end
section
variable {P : Program} {w : World} {K : PySem.W.Frag} {mg : Str → Option Value} {base : Heap} {f : Addr} {fd : FuncData} {C : Addr}
/-- what the rings of the reduced forms keep -/
structure RgOk (D : Int) : Prop where
  pos : 0 < D
  bnd : ∀ x, inRF D x → bndC x = true ∧ bndC (stepM x) = true
  ring : ∀ x, inRF D x → ∃ rs, ringC 50 x (stepM x) = some rs
  clo : ∀ x y, inRF D x → y ∈ rgM x → inRF D y ∧ x ∈ rgM y
/-- the state of the walk over the sorted keys -/
structure CLs (K : PySem.W.Frag) (C : Addr) (H0 H : Hp) (d p r : Addr) (bs : List (Addr × T3)) (us : List T3) (fs : List Addr) (ts : List T3) (kvs : List (List L2.Key × V)) : Prop where
  same : Same H0 H
  hr : H r = some (.lst (rf bs))
  tb : ∀ b ∈ bs, H b.1 = some (.tup (tv b.2))
  hd : H d = some (.dT kvs)
  hk : kvs.map (·.1) = us.map k3
  hp : H p = some (.lst (fs.map V.ref))
  fs : FsAt K C H fs ts
  hv : ∀ x ∈ us, valV kvs (k3 x) = some .non ∨ ∃ f, valV kvs (k3 x) = some (.ref f) ∧ FormAt K C H f x
theorem CLs.later {H0 H H' : Hp} {d p r : Addr} {bs : List (Addr × T3)} {us ts : List T3} {fs : List Addr} {kvs : List (List L2.Key × V)} (h : CLs K C H0 H d p r bs us fs ts kvs) (s : Same H H') : CLs K C H0 H' d p r bs us fs ts kvs :=
  ⟨h.same.trans s, s _ _ h.hr, fun b hb => s _ _ (h.tb b hb), s _ _ h.hd, h.hk, s _ _ h.hp, fs_same h.fs s, fun x hx => (h.hv x hx).imp id fun ⟨f, g1, g2⟩ => ⟨f, g1, form_same g2 s⟩⟩
theorem CLs.add {H0 H : Hp} {d p r : Addr} {bs : List (Addr × T3)} {us ts : List T3} {fs : List Addr} {kvs : List (List L2.Key × V)} (h : CLs K C H0 H d p r bs us fs ts kvs) (hp0 : H0 p = none) (npr : p ≠ r) {f : Addr} {t : T3} (hf : FormAt K C H f t) :
    CLs K C H0 (upd H p (.lst (fs.map V.ref ++ [.ref f]))) d p r bs us (fs ++ [f]) (ts ++ [t]) kvs := by
  have hp := h.hp
  refine ⟨same_mut h.same hp0, (upd_ne npr.symm).trans h.hr, fun b hb => (upd_ne (fun e => by have := h.tb b hb; rw [e, hp] at this; cases this)).trans (h.tb b hb), (upd_ne (fun e => by have := h.hd; rw [e, hp] at this; cases this)).trans h.hd, h.hk, by rw [upd_same, List.map_append]; rfl,
    fs_add (fs_upd hp h.fs) (form_upd hp hf), fun x hx => (h.hv x hx).imp id fun ⟨g, g1, g2⟩ => ⟨g, g1, form_upd hp g2⟩⟩
theorem CLs.set {H0 H : Hp} {d p r : Addr} {bs : List (Addr × T3)} {us ts : List T3} {fs : List Addr} {kvs : List (List L2.Key × V)} (h : CLs K C H0 H d p r bs us fs ts kvs) (hd0 : H0 d = none) {t : T3} (ht : t ∈ us) :
    CLs K C H0 (upd H d (.dT (putK kvs (k3 t) .non))) d p r bs us fs ts (putK kvs (k3 t) .non) := by
  have hd := h.hd
  refine ⟨same_mut h.same hd0, (upd_ne (fun e => by have := h.hr; rw [e, hd] at this; cases this)).trans h.hr, fun b hb => (upd_ne (fun e => by have := h.tb b hb; rw [e, hd] at this; cases this)).trans (h.tb b hb), upd_same, ?_, (upd_ne (fun e => by have := h.hp; rw [e, hd] at this; cases this)).trans h.hp,
    ⟨h.fs.1, fun i f u a b => form_updT hd (h.fs.2 i f u a b)⟩, fun x hx => ?_⟩
  · rw [keys_put t .non h.hk]
    unfold putT
    rw [if_pos ht]
  · rw [valV_put]
    by_cases e : k3 x = k3 t
    · rw [if_pos e]
      exact .inl rfl
    · rw [if_neg e]
      exact (h.hv x hx).imp id fun ⟨g, g1, g2⟩ => ⟨g, g1, form_updT hd g2⟩
theorem redC_one {t : T3} (h : bndC t = true) (h2 : redM t = true) : redC 1 t = some t := by
  show (if bndC t = true then (if redM t = true then some t else redC 0 (stepM t)) else none) = some t
  rw [if_pos h, if_pos h2]
theorem srt_later {ss : List T3} (h : SrtT ss) {i : Nat} {o L : T3} (hi : ss[i]? = some o) (hL : L ∈ ss) (hn : L ∉ ss.take (i + 1)) : ltT o L = true := by
  obtain ⟨k, hk⟩ := List.mem_iff_getElem?.mp hL
  obtain ⟨hk1, hk2⟩ := List.getElem?_eq_some_iff.mp hk
  obtain ⟨hi1, hi2⟩ := List.getElem?_eq_some_iff.mp hi
  have hik : i < k := by
    refine Nat.lt_of_not_le fun hle => hn ?_
    rw [List.mem_iff_getElem?]
    exact ⟨k, by rw [List.getElem?_take, if_pos (by omega)]; exact hk⟩
  have := List.pairwise_iff_getElem.mp h i k hi1 hk1 hik
  rw [hi2, hk2] at this
  exact this
theorem srt_once {ss : List T3} (h : SrtT ss) {i : Nat} {o : T3} (hi : ss[i]? = some o) : o ∉ ss.take i := by
  intro hm
  obtain ⟨k, hk⟩ := List.mem_iff_getElem?.mp hm
  rw [List.getElem?_take] at hk
  split at hk
  · rename_i hki
    obtain ⟨hk1, hk2⟩ := List.getElem?_eq_some_iff.mp hk
    obtain ⟨hi1, hi2⟩ := List.getElem?_eq_some_iff.mp hi
    have := List.pairwise_iff_getElem.mp h k i hk1 hi1 hki
    rw [hi2, hk2, ltT_irrefl] at this
    cases this
  · cases hk
structure spCL (K : PySem.W.Frag) (C : Addr) (vs : List V) (H : Hp) (Q : VK) (E : XK) : Prop where
  ex : ∃ D, vs = [.int D] ∧ 5 ≤ D ∧ D ≤ 400 ∧ isD D = true ∧ RgOk D ∧ ∀ H' q fs ts, Same H H' → H q = none → H' q = some (.lst (fs.map V.ref)) → FsAt K C H' fs ts → ts.length ≤ 1000 → (∀ x, inRF D x → (∀ y ∈ rgM x, ltT y x = false) → x ∈ ts) → Q (.ref q) H'
theorem ok_class_list (T : Tx K mg) (CP_coefficients : PrpF P w K mg base C "coefficients" 1 ps_Form_coefficients (spCoef K C)) (C_reduced_forms : CalD P w K mg base 8 "reduced_forms" ps_reduced_forms [.bl false] (spRF K C))
    (C_ring_of : Cal P w K mg base 10 "ring_of" ps_ring_of (spRO K C)) (F : FnP K "class_list" s_class_list f fd) : FnOk P w K mg base CX0 11 f fd ps_class_list (spCL K C) := by
  refine F.ok sc_class_list (fun vs H Q E h => ?_) (fun cdv A outer s H vs Q E hr h => ?_)
  · obtain ⟨D, rfl, _⟩ := h
    rfl
  · obtain ⟨D, rfl, D5, D4, hD, hR, k⟩ := h
    refine ⟨_, PSs.nox (pss_cons (ps_setDcT (i := 1) (own := [("form", 4)]) rfl (Nat.lt_of_succ_lt (hu1 hr)) sc_class_list.nd rfl rfl (swD_true rfl rfl rfl (by decide +kernel)) (k_pl (K := K) rfl (pe_calD C_reduced_forms hr (pa_cons (pv 0) pa_nil))) (blkOk_by (own := [("form", 4)]) (by kernel_rfl)) (fun _ _ _ _ _ => (pg_name (i := 4) sc_class_list.nd rfl (by first | exact Or.inl rfl | exact Or.inr rfl))) (fun _ _ _ _ _ => (pe_prp CP_coefficients hr (pv 4))) (fun _ _ _ _ _ => (pv 4)))
    (pss_cons (ps_set (i := 2) sc_class_list.nd rfl (Or.inl rfl) (pe_lst pa_nil))
    (pss_cons (ps_for PassesOwn.never rfl (k_pl (K := K) rfl (pe_callB (cr_sortKT (hu64 hr) rfl) (by rfl) T.b_sorted (by decide +kernel) (pa_cons (pv 1) pa_nil))) (pg_name (i := 3) sc_class_list.nd rfl (by first | exact Or.inl rfl | exact Or.inr rfl))
    (pss_one (ps_if (pt_cmp (pc_notN (pe_dget (hu1 hr) (pv 1) (pv 3) (fun _ _ => rfl))))
    (pss_cons (ps_expr (pe_bm PySem.F.plainAttrs_list PySem.F.slot_list_append PySem.F.type_list_append mt_append (pv 2) (pa_cons (pe_dget (hu1 hr) (pv 1) (pv 3) (fun _ _ => rfl)) pa_nil)))
    (pss_one (ps_for PassesOwn.never rfl (k_pl (K := K) rfl (pe_cal C_ring_of hr (pa_cons (pe_dget (hu1 hr) (pv 1) (pv 3) (fun _ _ => rfl)) pa_nil))) (pg_name (i := 4) sc_class_list.nd rfl (by first | exact Or.inl rfl | exact Or.inr rfl))
    (pss_one (ps_dput (hu1 hr) (pv 1) (pe_prp CP_coefficients hr (pv 4)) pe_non (by rfl))))))
    pss_nil)))
    (pss_one (ps_ret (pv 2)))))), ?_⟩
    fail "rd"
    refine ⟨D5, D4, hD, fun H1 q fs ts s1 q0 hq hF hmem hlen => ?_⟩
    fail "rd"
    refine ⟨⟨_, SqL.of hq⟩, fun d hd => ?_⟩
    refine dcT_list (K := K) (a := q) (xs := fs.map V.ref) (fun i H' => ∃ kvs us, Same H1 H' ∧ H' d = some (.dT kvs) ∧ kvs.map (·.1) = us.map k3 ∧ us.Nodup ∧ (∀ x, x ∈ us ↔ x ∈ ts.take i) ∧ us.length ≤ i ∧ ∀ x ∈ us, ∃ f, valV kvs (k3 x) = some (.ref f) ∧ FormAt K C H' f x)
      ⟨[], [], same_new hd, upd_same, rfl, List.nodup_nil, fun x => by simp, Nat.le_refl _, fun x hx => nomatch hx⟩ (fun i H' hI => by obtain ⟨_, _, g, _⟩ := hI; exact SqL.of (g _ _ hq)) (fun i x H' hi hI => ?_) (fun H2 hI => ?_)
    · obtain ⟨kvs, us, sa, hd', hk, hnd, hmu, hle, hval⟩ := hI
      obtain ⟨fi, hfi, rfl⟩ : ∃ p, fs[i]? = some p ∧ x = V.ref p := by
        rw [List.getElem?_map] at hi
        cases e : fs[i]? with
        | none => rw [e] at hi; cases hi
        | some p => rw [e] at hi; exact ⟨p, rfl, (Option.some.inj hi).symm⟩
      have hil : i < ts.length := by rw [← hF.1]; exact (List.getElem?_eq_some_iff.mp hfi).1
      have hti := List.getElem?_eq_getElem hil
      generalize ts[i] = t at hti
      have hFi : FormAt K C H' fi t := form_same (hF.2 i fi t hfi hti) sa
      fail "rd"
      refine prCoefT hFi fun p hp => ?_
      fail "rd"
      have hkl : kvs.length = us.length := by have := congrArg List.length hk; simpa using this
      refine ⟨p, kvs, k3 t, rfl, hp, hd', Nat.lt_of_le_of_lt (show kvs.length ≤ 1000 by omega) (by decide), putK kvs (k3 t) (.ref fi), putT us t, same_mut sa hd, upd_same, keys_put _ _ hk, nodup_putT hnd, fun x => ?_, ?_, fun x hx => ?_⟩
      · rw [mem_putT, hmu, List.take_add_one, hti]
        simp
      · have := len_putT us t
        omega
      · rw [valV_put]
        by_cases e : k3 x = k3 t
        · rw [if_pos e, k3_inj e]
          exact ⟨fi, rfl, form_updT hd' hFi⟩
        · rw [if_neg e]
          rcases mem_putT.mp hx with h1 | h1
          · obtain ⟨g, g1, g2⟩ := hval x h1
            exact ⟨g, g1, form_updT hd' g2⟩
          · rw [h1] at e
            exact absurd rfl e
    · obtain ⟨kvs, us, sa, hd2, hk, hnd, hmu, hle, hval⟩ := hI
      rw [List.length_map, hF.1] at hmu hle
      rw [List.take_length] at hmu
      have hmu : ∀ x, x ∈ us ↔ inRF D x := fun x => (hmu x).trans (hmem x)
      fail "rd"
      refine ⟨by decide, fun p hp => ?_⟩
      fail "rd"
      refine ⟨d, kvs, us, rfl, .inl ((same_new hp) _ _ hd2), hk, by omega, fun r bs hr0 hb hT hT2 => ?_⟩
      obtain ⟨hs1, hs2⟩ := srt_of (bs := bs) (by rw [hb]; exact hnd)
      rw [hb] at hs2
      have hln : (bs.mergeSort lb).length = us.length := by rw [List.length_mergeSort, ← hb, List.length_map]
      have hpm := List.mergeSort_perm bs lb
      have hTb : ∀ b ∈ bs.mergeSort lb, upd (upd H2 p (.lst [])) r (.lst (rf (bs.mergeSort lb))) b.1 = some (.tup (tv b.2)) := fun b hbm => (same_new hr0) _ _ (hT2 b (hpm.mem_iff.mp hbm))
      generalize bs.mergeSort lb = bsS at *
      generalize hus : bsS.map (·.2) = ss at *
      have sH : Same H1 (upd (upd H2 p (.lst [])) r (.lst (rf bsS))) := sa.trans ((same_new hp).trans (same_new hr0))
      have hp3 : upd (upd H2 p (.lst [])) r (.lst (rf bsS)) p = some (.lst []) := (same_new hr0) _ _ upd_same
      have hr3 : upd (upd H2 p (.lst [])) r (.lst (rf bsS)) r = some (.lst (rf bsS)) := upd_same
      have hd3 : upd (upd H2 p (.lst [])) r (.lst (rf bsS)) d = some (.dT kvs) := (same_new hr0) _ _ ((same_new hp) _ _ hd2)
      have hv3 : ∀ x ∈ us, ∃ f, valV kvs (k3 x) = some (.ref f) ∧ FormAt K C (upd (upd H2 p (.lst [])) r (.lst (rf bsS))) f x := fun x hx => by
        obtain ⟨f, g1, g2⟩ := hval x hx
        exact ⟨f, g1, form_same (form_same g2 (same_new hp)) (same_new hr0)⟩
      have hp0 : H p = none := same_none (s1.trans sa) hp
      have hd0 : H d = none := same_none s1 hd
      have npr : p ≠ r := fun e => by rw [e, upd_same] at hr0; cases hr0
      have npd : p ≠ d := fun e => by rw [e, hd2] at hp; cases hp
      have sH0 : Same H (upd (upd H2 p (.lst [])) r (.lst (rf bsS))) := s1.trans sH
      generalize upd (upd H2 p (.lst [])) r (.lst (rf bsS)) = H3 at *
      fail "rd"
      refine ⟨⟨_, SqL.of hr3⟩, ?_⟩
      have hus2 : ∀ x, x ∈ ss ↔ inRF D x := fun x => (hs2 x).trans (hmu x)
      have hsl : ss.length = us.length := by rw [← hus, List.length_map, hln]
      refine for_list (K := K) (a := r) (xs := rf bsS) (fun i σ H' => ∃ kvs fsF tsF o3 o4, σ = [some (.int D), some (.ref d), some (.ref p), o3, o4] ∧ CLs K C H H' d p r bsS us fsF tsF kvs ∧ tsF.length ≤ i ∧
          ∀ L, inRF D L → (∀ y ∈ rgM L, ltT y L = false) → (L ∈ ss.take i → L ∈ tsF) ∧ (L ∉ ss.take i → valV kvs (k3 L) ≠ some .non))
        ⟨kvs, [], [], none, none, rfl, ⟨sH0, hr3, hTb, hd3, hk, hp3, ⟨rfl, fun i f t a => by cases a⟩, fun x hx => .inr (hv3 x hx)⟩, Nat.le_refl _, fun L hL _ => ⟨fun h => by simp at h, fun _ e => by
          obtain ⟨f, g1, _⟩ := hv3 L ((hmu L).mpr hL)
          rw [g1] at e
          cases e⟩⟩ (fun i σ H' _ hI => by obtain ⟨_, _, _, _, _, _, g, _⟩ := hI; exact SqL.of g.hr) (fun i x σ H' hi hI => ?_) (fun σ H' hI => ?_)
      · clear hd3 hr3 hp3 hv3 sH0 hk
        obtain ⟨kvs, fsF, tsF, o3, o4, rfl, S, hle2, hLd⟩ := hI
        obtain ⟨b, hbi, rfl⟩ : ∃ b, bsS[i]? = some b ∧ x = V.ref b.1 := by
          rw [List.getElem?_map] at hi
          cases e : bsS[i]? with
          | none => rw [e] at hi; cases hi
          | some p => rw [e] at hi; exact ⟨p, rfl, (Option.some.inj hi).symm⟩
        have hbm := List.mem_of_getElem? hbi
        have hso : ss[i]? = some b.2 := by rw [← hus, List.getElem?_map, hbi]; rfl
        have hoR : inRF D b.2 := (hus2 _).mp (List.mem_of_getElem? hso)
        have hou : b.2 ∈ us := (hmu _).mpr hoR
        have hil : i < us.length := by rw [← hsl]; exact (List.getElem?_eq_some_iff.mp hso).1
        have tk1 : ∀ L, L ∈ ss.take (i + 1) ↔ (L ∈ ss.take i ∨ L = b.2) := fun L => by
          rw [List.take_add_one, hso]
          simp
        fail "rd"
        rcases S.hv b.2 hou with hN | ⟨f0, hf1, hf2⟩
        · refine ⟨d, .non, rfl, hN ▸ DGet.t (k := k3 b.2) S.hd (S.tb b hbm), ?_⟩
          refine ⟨_, rfl, iteFI (by simp) ?_⟩
          fail "rd"
          refine ⟨kvs, fsF, tsF, _, _, rfl, S, by omega, fun L hL hmin => ⟨fun h => ?_, fun h => (hLd L hL hmin).2 (fun q => h ((tk1 L).mpr (.inl q)))⟩⟩
          rcases (tk1 L).mp h with h | h
          · exact (hLd L hL hmin).1 h
          · exact absurd hN (by rw [← h]; exact (hLd L hL hmin).2 (by rw [h]; exact srt_once hs1 hso))
        · refine ⟨d, .ref f0, rfl, hf1 ▸ DGet.t (k := k3 b.2) S.hd (S.tb b hbm), ?_⟩
          refine ⟨_, rfl, iteTI (by simp) ?_⟩
          fail "rd"
          refine ⟨.inl ⟨rfl, _, SqL.of S.hp⟩, ?_⟩
          fail "rd"
          refine ⟨d, .ref f0, rfl, hf1 ▸ DGet.t (k := k3 b.2) S.hd (S.tb b hbm), ?_⟩
          fail "rd"
          refine ⟨_, _, _, rfl, rfl, S.hp, Nat.lt_of_le_of_lt (show _ ≤ 2000 by rw [List.length_map, S.fs.1]; omega) (by decide), ?_⟩
          have S2 := S.add hp0 npr hf2
          have hf3 := form_upd (o := .lst (fsF.map V.ref ++ [.ref f0])) S.hp hf2
          generalize upd H' p (.lst (fsF.map V.ref ++ [.ref f0])) = H4 at *
          fail "rd"
          refine ⟨d, .ref f0, rfl, hf1 ▸ DGet.t (k := k3 b.2) S2.hd (S2.tb b hbm), ?_⟩
          fail "rd"
          obtain ⟨rs, hrs⟩ := hR.ring b.2 hoR
          obtain ⟨hb1, hb2⟩ := hR.bnd b.2 hoR
          have hdp : ¬ dsc b.2 < 0 := by rw [hoR.2.1]; have := hR.pos; omega
          have hrg : rgM b.2 = b.2 :: rs := by unfold rgM; rw [if_neg hdp, hrs]; rfl
          refine ⟨⟨f0, b.2, b.2, 1, 50, rs, rfl, hf3, redC_one hb1 hoR.1, hb1, by decide, .inr ⟨hdp, hb2, hrs⟩, fun H5 q5 gt s5 q50 hG hh hgm => ?_⟩⟩
          rw [← hrg] at hgm
          obtain ⟨gs, hg1, hg2, hg3⟩ := hG
          have S5 := S2.later s5
          fail "rd"
          refine ⟨⟨_, SqL.of hg1⟩, ?_⟩
          refine for_list (K := K) (a := q5) (xs := gs.map V.ref) (fun j σ H' => ∃ kvs2 o4, σ = [some (.int D), some (.ref d), some (.ref p), some (.ref b.1), o4] ∧ CLs K C H H' d p r bsS us (fsF ++ [f0]) (tsF ++ [b.2]) kvs2 ∧ H' q5 = some (.lst (gs.map V.ref)) ∧
              (∀ (m : Nat) g t, gs[m]? = some g → gt[m]? = some t → FormAt K C H' g t) ∧ ∀ x, x ∉ rgM b.2 → valV kvs2 (k3 x) = valV kvs (k3 x))
            ⟨kvs, o4, rfl, S5, hg1, hg3, fun x _ => rfl⟩ (fun j σ H' _ hI => by obtain ⟨_, _, _, _, g, _⟩ := hI; exact SqL.of g) (fun j x σ H' hj hI => ?_) (fun σ H' hI => ?_)
          · obtain ⟨kvs2, o4, rfl, S6, hq6, hF6, hx6⟩ := hI
            obtain ⟨g, hg, rfl⟩ : ∃ p, gs[j]? = some p ∧ x = V.ref p := by
              rw [List.getElem?_map] at hj
              cases e : gs[j]? with
              | none => rw [e] at hj; cases hj
              | some p => rw [e] at hj; exact ⟨p, rfl, (Option.some.inj hj).symm⟩
            have hjl : j < gt.length := by rw [← hg2]; exact (List.getElem?_eq_some_iff.mp hg).1
            have htj := List.getElem?_eq_getElem hjl
            generalize gt[j] = t at htj
            have htm : t ∈ rgM b.2 := (hgm t).mp (List.mem_of_getElem? htj)
            have htu : t ∈ us := (hmu t).mpr (hR.clo b.2 t hoR htm).1
            have hFg := hF6 j g t hg htj
            fail "rd"
            refine prCoefT hFg fun pk hpk => ?_
            have hkl : kvs2.length = us.length := by have := congrArg List.length S6.hk; simpa using this
            refine ⟨d, _, rfl, DPut.t (k := k3 t) S6.hd hpk (Nat.lt_of_le_of_lt (show kvs2.length ≤ 1000 by omega) (by decide)), ?_⟩
            refine ⟨putK kvs2 (k3 t) .non, _, rfl, S6.set hd0 htu, (upd_ne (fun e => by have := S6.hd; rw [← e, hq6] at this; cases this)).trans hq6, fun m g t a b => form_updT S6.hd (hF6 m g t a b), fun x hx => ?_⟩
            rw [valV_put, if_neg (fun e => hx (by rw [k3_inj e]; exact htm))]
            exact hx6 x hx
          · obtain ⟨kvs2, o4, rfl, S6, hq6, hF6, hx6⟩ := hI
            refine ⟨kvs2, fsF ++ [f0], tsF ++ [b.2], _, _, rfl, S6, by rw [List.length_append]; show tsF.length + 1 ≤ i + 1; omega, fun L hL hmin => ⟨fun h => ?_, fun h => ?_⟩⟩
            · rcases (tk1 L).mp h with h | h
              · exact List.mem_append_left _ ((hLd L hL hmin).1 h)
              · rw [h]; exact List.mem_append_right _ List.mem_cons_self
            · have hLi : L ∉ ss.take i := fun q => h ((tk1 L).mpr (.inl q))
              have hlt := srt_later hs1 hso ((hus2 L).mpr hL) h
              have hnr : L ∉ rgM b.2 := fun q => by
                have := hmin b.2 (hR.clo b.2 L hoR q).2
                rw [hlt] at this
                cases this
              rw [hx6 L hnr]
              exact (hLd L hL hmin).2 hLi
      · obtain ⟨kvs, fsF, tsF, o3, o4, rfl, S, hle2, hLd⟩ := hI
        have e1 : (rf bsS).length = ss.length := by rw [← hus, List.length_map, List.length_map]
        rw [e1] at hle2 hLd
        rw [List.take_length] at hLd
        fail "rd"
        exact k H' p fsF tsF S.same hp0 S.hp S.fs (by omega) fun x hx hmin => (hLd x hx hmin).1 ((hus2 x).mpr hx)
structure spCls (K : PySem.W.Frag) (C : Addr) (vs : List V) (H : Hp) (Q : VK) (E : XK) : Prop where
  ex : ∃ D, vs = [.int D] ∧ 5 ≤ D ∧ D ≤ 400 ∧ isD D = true ∧ RgOk D ∧ ∀ H' q fs ts, Same H H' → SqT K H' q (fs.map V.ref) → FsAt K C H' fs ts → ts.length ≤ 1000 → (∀ x, inRF D x → (∀ y ∈ rgM x, ltT y x = false) → x ∈ ts) → Q (.ref q) H'
theorem ok_classes (T : Tx K mg) (C_check_discriminant : Cal P w K mg base 4 "check_discriminant" ps_check_discriminant (fun vs H Q _ => ∃ v : Int, vs = [.int v] ∧ isD v = true ∧ ∀ H', Same H H' → Q .non H')) (C_class_list : Cal P w K mg base 11 "class_list" ps_class_list (spCL K C))
    (F : FnP K "classes" s_classes f fd) : FnOk P w K mg base CX0 12 f fd ps_classes (spCls K C) := by
  refine F.ok sc_classes (fun vs H Q E h => ?_) (fun cdv A outer s H vs Q E hr h => ?_)
  · obtain ⟨D, rfl, _⟩ := h
    rfl
  · obtain ⟨D, rfl, D5, D4, hD, hR, k⟩ := h
    refine ⟨_, PSs.nox (pss_cons (ps_expr (pe_cal C_check_discriminant hr (pa_cons (pv 0) pa_nil)))
    (pss_one (ps_ret (pe_callTy (k_tuple (K := K) rfl) (by rfl) T.b_tuple (by decide +kernel) (pa_cons (pe_cal C_class_list hr (pa_cons (pv 0) pa_nil)) pa_nil))))), ?_⟩
    fail "rd"
    refine ⟨hD, fun H1 s1 => ?_⟩
    fail "rd"
    refine ⟨D5, D4, hD, hR, fun H2 q fs ts s2 q0 hq hF hl hm => ?_⟩
    refine ⟨_, _, rfl, .inl ⟨SqL.of hq, fun l hl' => ?_⟩⟩
    exact k _ l fs ts (s1.trans (s2.trans (same_new hl'))) (SqT.of upd_same) (fs_same hF (same_new hl')) hl hm
end
end G41
set_option Elab.async false
set_option linter.all false
set_option maxRecDepth 100000
set_option maxHeartbeats 4000000
namespace G41H
open PySem PySem.Spec PySem.SeqAt
open AutoSeq1 (wpAny_loadPart')
open MeetsSeq MeetsSeq2 MeetsSeq3 SeqRoads2
section
variable {prog : Program} {w : World} {A : Around} {R : Result → Shared → Prop}
/-- x in a tuple whose items are compared by defs: J tells the state while the items in the list are still to be asked -/
theorem tup_has {l : Addr} {items : Array Value} {n : Nat} {dd : Option Addr} {sl : Array (Option Value)} {x : Value} (J : List Value → Shared → Prop)
    (ask : ∀ y rest s, J (y :: rest) s → wpAny (model prog w) A.in1 (eqBool y x) (fun r s' => if r = true then R (.ok (.ret (.bool true))) s' else J rest s') (fun e s' => R (.error e) s') s)
    (fin : ∀ s, J [] s → R (.ok (.ret (.bool false))) s) {s : Shared} (ho : s.heap.get? l = some { cls := .type "tuple", dict := dd, data := .seq items n, slots := sl }) (h : J items.toList s) :
    wpAny (model prog w) A.in1 (Builtin.«tuple.__contains__» ⟨[.ref l, x], []⟩) (GQ.FinOf prog w A R) (fun e s' => R (.error e) s') s := by
  have start := h
  obtain ⟨hp, g, d, tk, os⟩ := s
  wp_walk using wpAny_loadPart' ho, wpAny_forIn_array _ (fun rest b s' => b.1 = none ∧ J rest s') _
  case turn =>
    rintro y rest b s' ⟨hb, hJ⟩
    refine wpAny_bind (wpAny_mono (ask y rest s' hJ) (fun r s2 q => ?_) fun _ _ z => z)
    cases r with
    | true =>
      rw [if_pos rfl] at q
      wp_walk
      exact q
    | false =>
      rw [if_neg (by decide)] at q
      wp_walk
      exact ⟨rfl, q⟩
  case fin =>
    rintro ⟨b1, b2⟩ s' ⟨hb, hJ⟩
    simp only at hb
    subst hb
    have q := fin s' hJ
    wp_walk
    exact q
  case h => exact ⟨rfl, start⟩
end
end G41H
namespace G41
open PySem PySem.Spec PyProof.Rows L2
section
variable {X : Cx} {C : Addr} {j : Nat}
theorem form_inj {pins : List (Addr × Obj)} {s : Shared} {σ : L2.St} {H : Hp} {a : Addr} {t u : T3} (I : Inv X pins σ H s) (h : FormAt X.K C H a t) (h' : FormAt X.K C H a u) : t = u := by
  obtain ⟨dx, q, w, r, p, h1, h2, h3⟩ := h
  obtain ⟨dx', q', w', r', p', h1', h2', h3'⟩ := h'
  rw [h1] at h1'
  simp only [Option.some.injEq, HO.ins.injEq, List.cons.injEq, Prod.mk.injEq, V.ref.injEq, V.str.injEq, true_and, and_true] at h1'
  obtain ⟨_, rfl, _⟩ := h1'
  have e := I.tuple_inj h2 h2'
  simp only [List.cons.injEq, V.ref.injEq] at e
  obtain ⟨rfl, _⟩ := e
  rw [h3] at h3'
  simp only [Option.some.injEq, HO.tup.injEq, List.cons.injEq, V.int.injEq, and_true] at h3'
  obtain ⟨e1, e2, e3⟩ := h3'
  obtain ⟨a1, a2, a3⟩ := t
  obtain ⟨b1, b2, b3⟩ := u
  simp only at e1 e2 e3
  rw [e1, e2, e3]
/-- == of two Forms inside a builtin -/
theorem eqb_form (M : EqF X.prog X.w X.K X.mg X.base C) {pins : List (Addr × Obj)} {s : Shared} {σ : L2.St} {H : Hp} {a b : Addr} {t u : T3} {Q : Bool → Shared → Prop} {A : Around} (hr : Room 1 A) (e0 : Env0 X.prog X.w X.K X.mg X.base A X.stack s H) (I : Inv X pins σ H s)
    (ha : FormAt X.K C H a t) (hb : FormAt X.K C H b u) (q : ∀ s', Inv X pins σ H s' → Q (decide (t = u)) s') : wpAny (model X.prog X.w) A (eqBool (.ref a) (.ref b)) Q X.xe s := by
  by_cases hab : a = b
  · subst hab
    have e := form_inj I ha hb
    subst e
    unfold eqBool
    refine wpAny_holding (wpAny_ite_split (fun _ => ?_) (fun h => absurd (beq_self_eq_true _) h))
    have := q s I
    rw [decide_eq_true rfl] at this
    exact wpAny_pure (M := model X.prog X.w) (E := X.xe) this
  · refine GQ.eqBool_refG hab ?_
    obtain ⟨hm, hn, f, fd, hs, hf, hbd, F⟩ := M
    obtain ⟨dx, _, _, _, _, e1, _⟩ := id ha
    obtain ⟨dx', _, _, _, _, e2, _⟩ := id hb
    obtain ⟨mA, J, _⟩ := ins_get I.hok e1
    obtain ⟨mB, J', _⟩ := ins_get I.hok e2
    obtain ⟨od, J, _⟩ := J.look
    obtain ⟨od', J', _⟩ := J'.look
    obtain ⟨m, hF⟩ := I.fr
    refine PySem.W.cmp_K (op := .Eq) (tb := .ref C) hr.units0 hF I.ok.mod.kin J J'.type (by simp [PySem.W.notFirst]) hs hf ?_
    exact call_eqF F hbd hr e0 I ha hb fun s' I' => ⟨_, rfl, q s' I'⟩
def rInF (K : PySem.W.Frag) (C : Addr) : R2 := fun x y H Q => ∃ a q fs t ts, x = .ref a ∧ y = .ref q ∧ FormAt K C H a t ∧ SqT K H q (fs.map V.ref) ∧ FsAt K C H fs ts ∧ Q (.bl (decide (t ∈ ts))) H
def rNotInF (K : PySem.W.Frag) (C : Addr) : R2 := fun x y H Q => ∃ a q fs t ts, x = .ref a ∧ y = .ref q ∧ FormAt K C H a t ∧ SqT K H q (fs.map V.ref) ∧ FsAt K C H fs ts ∧ Q (.bl (!decide (t ∈ ts))) H
theorem hasF (M : EqF X.prog X.w X.K X.mg X.base C) (hr : Room 4 X.A) {pins : List (Addr × Obj)} {s : Shared} {σ : L2.St} {H : Hp} {a q : Addr} {fs : List Addr} {t : T3} {ts : List T3} {Q : Bool → Shared → Prop} (I : Inv X pins σ H s)
    (ha : FormAt X.K C H a t) (hq : SqT X.K H q (fs.map V.ref)) (hF : FsAt X.K C H fs ts) (k : ∀ s', Inv X pins σ H s' → Q (decide (t ∈ ts)) s') : wpAny (model X.prog X.w) X.A (contains (.ref q) (.ref a)) Q X.xe s := by
  obtain ⟨its, rv, hl, hlen⟩ := I.tuple hq
  obtain ⟨⟨cls, dd, data, sl⟩, ho, hc, n, hd⟩ := id hl
  simp only at hc hd
  subst hc hd
  have hit : its = fs.map Value.ref := refs_at rv
  refine wpAny_contains_slot ⟨_, ho, rfl⟩ PySem.F.slot_tuple_contains ?_
  refine GQ.call_here PySem.F.slot_tuple_contains ⟨_, ho, rfl⟩ PySem.F.entry_tuple_contains (PySem.F.args_tuple_contains_2 _ _) ?_
  refine G41H.tup_has (A := X.A) (R := wants (fun r s' => wpAny (model X.prog X.w) X.A (truthy r) Q X.xe s') X.xe) (fun rest s' => Inv X pins σ H s' ∧ ∃ m, rest = (fs.drop m).map Value.ref ∧ t ∉ ts.take m) (fun y rest s' hJ => ?_) (fun s' hJ => ?_) ho ⟨I, 0, by rw [hit]; rfl, by simp⟩
  · obtain ⟨I', m, hm, hn⟩ := hJ
    have lt : m < fs.length := by
      refine Nat.lt_of_not_le fun h => ?_
      rw [List.drop_eq_nil_of_le h] at hm
      cases hm
    rw [List.drop_eq_getElem_cons lt, List.map_cons] at hm
    injection hm with hy hrest
    subst hy
    have lt2 : m < ts.length := by rw [← hF.1]; exact lt
    have hfm := hF.2 m fs[m] ts[m] (List.getElem?_eq_getElem lt) (List.getElem?_eq_getElem lt2)
    refine eqb_form M (hr.mono (show 2 ≤ 4 by decide)).in1 I'.env0.in1 I' hfm ha fun s2 I2 => ?_
    by_cases e : ts[m] = t
    · rw [decide_eq_true e, if_pos rfl]
      have hin : decide (t ∈ ts) = true := decide_eq_true (e ▸ List.getElem_mem lt2)
      refine wpAny_truthy_bool ?_
      have := k s2 I2
      rw [hin] at this
      exact this
    · rw [decide_eq_false e, if_neg (by decide)]
      refine ⟨I2, m + 1, hrest, ?_⟩
      rw [List.take_add_one, List.getElem?_eq_getElem lt2]
      simp only [Option.toList_some, List.mem_append, List.mem_singleton, not_or]
      exact ⟨hn, fun z => e z.symm⟩
  · obtain ⟨I', m, hm, hn⟩ := hJ
    have hle : fs.length ≤ m := by
      refine Nat.le_of_not_lt fun h => ?_
      rw [List.drop_eq_getElem_cons h] at hm
      cases hm
    have hout : decide (t ∈ ts) = false := decide_eq_false (by rwa [List.take_of_length_le (by rw [← hF.1]; exact hle)] at hn)
    refine wpAny_truthy_bool ?_
    have := k s' I'
    rw [hout] at this
    exact this
theorem op_inF (M : EqF X.prog X.w X.K X.mg X.base C) (hr : Room j X.A) (hj : 4 ≤ j := by decide) : OpR X (compareOp .In) (rInF X.K C) := by
  intro pins s σ H x y v u Q I rx ry h
  obtain ⟨a, q, fs, t, ts, rfl, rfl, ha, hq, hF, k⟩ := h
  cases rx
  cases ry
  show wpAny _ X.A (do return Value.bool (← contains (Value.ref q) (Value.ref a)) : Sem Value) _ _ s
  exact wpAny_bind (hasF M (hr.mono hj) I ha hq hF fun s' I' => wpAny_pure ⟨.bl _, H, I', rfl, k⟩)
theorem op_notInF (M : EqF X.prog X.w X.K X.mg X.base C) (hr : Room j X.A) (hj : 4 ≤ j := by decide) : OpR X (compareOp .NotIn) (rNotInF X.K C) := by
  intro pins s σ H x y v u Q I rx ry h
  obtain ⟨a, q, fs, t, ts, rfl, rfl, ha, hq, hF, k⟩ := h
  cases rx
  cases ry
  show wpAny _ X.A (do return Value.bool (!(← contains (Value.ref q) (Value.ref a))) : Sem Value) _ _ s
  exact wpAny_bind (hasF M (hr.mono hj) I ha hq hF fun s' I' => wpAny_pure ⟨.bl _, H, I', rfl, k⟩)
/-- a tuple of whatever beside the empty one -/
def rNeT0 (K : PySem.W.Frag) : R2 := fun x y H Q => ∃ a b xs, x = .ref a ∧ y = .ref b ∧ SqT K H a xs ∧ SqT K H b [] ∧ Q (.bl (!xs.isEmpty)) H
theorem op_neT0 (hu : X.A.units < cLine) : OpR X (compareOp .NotEq) (rNeT0 X.K) := by
  intro pins s σ H x y v u Q I rx ry h
  obtain ⟨a, b, xs, rfl, rfl, ha, hb, k⟩ := h
  cases rx
  cases ry
  obtain ⟨its, rv, hl, _⟩ := I.tuple ha
  obtain ⟨its2, rv2, hl2, _⟩ := I.tuple hb
  cases rv2
  have lx : xs.length = its.length := rv.length
  refine PySem.SeqAt.RcNeAt.tuples (e := fun _ => true) hl hl2 hu (fun j h1 h2 => absurd h2 (Nat.not_lt_zero j)) X.prog X.w X.xe _ ⟨.bl (!xs.isEmpty), H, I, ?_, k⟩
  show _ = _
  cases its with
  | nil =>
    cases rv
    rfl
  | cons z zs =>
    cases rv
    simp
end
theorem k_inF {X : Cx} {C : Addr} {j : Nat} {K : PySem.W.Frag} (h : X.K = K) (M : EqF X.prog X.w X.K X.mg X.base C) (hr : Room j X.A) (hj : 4 ≤ j := by decide) : OpR X (compareOp .In) (rInF K C) := h ▸ op_inF M hr hj
theorem k_notInF {X : Cx} {C : Addr} {j : Nat} {K : PySem.W.Frag} (h : X.K = K) (M : EqF X.prog X.w X.K X.mg X.base C) (hr : Room j X.A) (hj : 4 ≤ j := by decide) : OpR X (compareOp .NotIn) (rNotInF K C) := h ▸ op_notInF M hr hj
theorem k_neT0 {X : Cx} {K : PySem.W.Frag} (h : X.K = K) (hu : X.A.units < cLine) : OpR X (compareOp .NotEq) (rNeT0 K) := h ▸ op_neT0 hu
end G41
set_option Elab.async false
set_option linter.all false
set_option maxRecDepth 100000
set_option maxHeartbeats 4000000
namespace G41
open PySem PySem.Spec PyProof.Rows L2
abbrev s_law_right : Stmt := top 87
abbrev nm_law_right : List Str := ["_law_jar_here", "_law_turn", "_law_whole_here", "_law_number", "_law_due", "_law_told", "_law_own", "_law_each"]
abbrev ps_law_right : List Str := ["_law_jar_here"]
theorem sc_law_right : FnScope nm_law_right ps_law_right (defScope s_law_right) := ⟨rfl, rfl, rfl, by decide +kernel, rfl, by decide +kernel, by decide +kernel⟩
local macro_rules | `(tactic| fail "rd1") => `(tactic| first
  | refine ⟨_, rfl, ?_⟩
  | refine ⟨_, _, rfl, rfl, ?_⟩
  | refine ⟨rfl, ?_⟩
  | refine ⟨_, _, rfl, ?_⟩
  | refine ⟨_, _, _, rfl, ?_⟩
  | fail)
local macro_rules | `(tactic| fail "rd") => `(tactic| repeat (fail "rd1"))
local macro_rules | `(tactic| fail "nn") => `(tactic| first
  | with_reducible assumption
  | (apply lkn; fail "ne"; fail "nn")
  | (apply none_same; with_reducible assumption; fail "sm"))
local macro_rules | `(tactic| fail "ne") => `(tactic| first
  | with_reducible assumption
  | exact (old_ne (by with_reducible assumption) (by with_reducible assumption)).1
  | exact (old_ne (by with_reducible assumption) (by with_reducible assumption)).2
  | (apply ne_new1; with_reducible assumption; fail "lk")
  | (apply ne_new2; with_reducible assumption; fail "lk"))
local macro_rules | `(tactic| fail "lk") => `(tactic| first
  | with_reducible assumption
  | exact upd_same
  | (apply lkn; fail "ne"; fail "lk")
  | (apply same_upd; with_reducible assumption; fail "lk"))
local macro_rules | `(tactic| fail "sm") => `(tactic| first
  | with_reducible assumption
  | exact Same.refl _
  | (apply same_mut; fail "sm"; fail "nn")
  | (apply trans_same; with_reducible assumption; fail "sm"))
local macro_rules | `(tactic| fail "sl") => `(tactic| first
  | with_reducible assumption
  | (apply lst_same; with_reducible assumption; fail "sm")
  | (apply SqL.of; fail "lk")
  | (apply lst_new; fail "nn"; fail "sl")
  | (apply lst_updn; fail "ne"; fail "sl")
  | (apply lst_trans; with_reducible assumption; fail "sl"))
local macro_rules | `(tactic| fail "st") => `(tactic| first
  | with_reducible assumption
  | (apply tup_same; with_reducible assumption; fail "sm")
  | (apply SqT.of; fail "lk")
  | (apply tup_new; fail "nn"; fail "st")
  | (apply tup_upd; fail "lk"; fail "st")
  | (apply tup_trans; with_reducible assumption; fail "st")
  | (apply tup_updI; fail "lk"; fail "st"))
local macro_rules | `(tactic| fail "nw") => `(tactic| (repeat (refine nwI (fun _ _ => ?_))); refine fun _ => ?_)
local macro_rules | `(tactic| fail "ln") => `(tactic| first
  | exact lenLt (Nat.le_of_ble_eq_true rfl)
  | exact Nat.le_of_ble_eq_true rfl)
local macro_rules | `(tactic| fail "un") => `(tactic| first
  | apply un_lcR
  | (refine un_lc2 2 ?_)
  | (apply un_lcL; fail "sl")
  | (apply un_lcT; fail "st")
  | (apply un_lcZ; fail "sl")
  | (apply un_lcZT; fail "st")
  | (apply un_lcZM; fail "sl"))
local macro_rules | `(tactic| fail "uf") => `(tactic| first
  | apply un_forR
  | (apply un_forL; fail "sl")
  | (apply un_forT; fail "st")
  | (apply un_forZ; fail "sl")
  | (apply un_forZT; fail "st")
  | (apply un_forZM; fail "sl")
  | (apply un_forE; fail "st"))
local macro_rules | `(tactic| fail "ns") => `(tactic| try simp only [wipe, L2.start, List.set_cons_zero, List.set_cons_succ, List.map_cons, List.map_nil, List.length_cons, List.length_nil, List.replicate_succ, List.replicate_zero, List.cons_append, List.nil_append, Nat.reduceAdd, Nat.reduceSub])
local macro_rules | `(tactic| fail "da") => `(tactic| first
  | exact DpAll.nil
  | (apply DpAll.cons; (first | exact Dp.int _ | (apply Dp.tup; fail "st"; fail "da") | (apply Dp.lst; fail "sl"; fail "da") | exact Dp.bl _ | exact Dp.str _); fail "da"))
local macro_rules | `(tactic| fail "dp") => `(tactic| first
  | exact Dp.int _
  | (apply Dp.tup; fail "st"; fail "da")
  | (apply Dp.lst; fail "sl"; fail "da"))
local macro_rules | `(tactic| fail "so") => `(tactic| first
  | (apply sx_upd; fail "so")
  | (apply sx_mut; fail "so"; fail "nn")
  | (apply sx_of; fail "sm"))
local macro_rules | `(tactic| fail "lg") => `(tactic| (refine PyProof.Rows.int_text_len_1921 (lg_small ?_); omega))
local macro_rules | `(tactic| fail "sx1") => `(tactic| (conv => whnf); first
  | (refine fun _ => ?_; fail "nw"; first | fail "un" | skip)
  | (refine fun _ => ?_)
  | (refine wipe_1 (by decide) ?_; fail "ns")
  | (refine wipe_2 (by decide) (by decide) ?_; fail "ns")
  | (refine ⟨_, rfl, ?_⟩)
  | (refine ⟨rfl, ?_⟩)
  | (refine ⟨_, _, rfl, rfl, ?_⟩)
  | (refine ⟨_, _, rfl, ?_⟩)
  | (refine ⟨_, _, _, rfl, ?_⟩)
  | apply un_forR
  | (apply un_forL; fail "sl")
  | (apply un_forT; fail "st")
  | (apply un_forZ; fail "sl")
  | (apply un_forZT; fail "st")
  | (apply un_forZM; fail "sl")
  | (apply un_forE; fail "st")
  | apply un_inR
  | (apply tyI; fail "sl")
  | (apply dpI; fail "dp"; fail "dp"; rfl; rfl)
  | (apply gtI; fail "st"; rfl)
  | apply isi_ii
  | apply isi_ib
  | (apply isi_tt; fail "st")
  | refine divN1 ?_
  | (apply nx_range; exact Nat.le_of_ble_eq_true rfl)
  | (apply nx_list; fail "sl"; rfl)
  | (apply nx_tup; fail "st"; rfl)
  | (apply nx_zip; fail "sl"; fail "sl"; rfl; rfl)
  | (apply nx_zipT; fail "st"; fail "st"; rfl; rfl)
  | (apply nx_zipM; fail "sl"; fail "st"; rfl; rfl)
  | (apply nx_enumT; fail "st"; rfl)
  | (apply st_range; fail "ln")
  | (apply st_list; fail "sl"; fail "ln")
  | (apply st_tup; fail "st"; fail "ln")
  | (apply st_zip; fail "sl"; fail "sl"; fail "ln")
  | (apply st_zipT; fail "st"; fail "st"; fail "ln")
  | (apply st_zipM; fail "sl"; fail "st"; rfl; rfl)
  | (apply st_enumT; fail "st"; rfl)
  | (apply mulR; with_reducible assumption)
  | (apply mulL; with_reducible assumption)
  | (apply accI; fail "lk"; fail "ln")
  | (apply apdI; fail "lk"; fail "ln")
  | (apply ixLI; fail "sl"; rfl)
  | (apply ixTI; fail "st"; rfl)
  | (apply setI; fail "lk"; rfl)
  | (apply slLI; fail "sl")
  | (apply sum2I; fail "sl")
  | (apply rep2I; fail "lk"; exact Nat.le_of_ble_eq_true rfl)
  | (refine And.intro (lg_small ?_) ?_; omega)
  | (apply joinI3; fail "sl"; fail "lg"; fail "lg"; fail "lg"; decide)
  | (apply enI; fail "st")
  | (apply enL; fail "sl")
  | (apply ppL; fail "sl")
  | (apply ppT; fail "st")
  | (apply pqL; fail "sl")
  | (apply pqT; fail "st")
  | (apply pzL; fail "sl"; fail "sl")
  | (apply pzT; fail "st"; fail "st")
  | (apply pzM; fail "sl"; fail "st")
  | (refine Or.inl ⟨_, rfl, ?_⟩)
  | (refine Or.inr ⟨_, rfl, ?_⟩)
  | (apply pxL; fail "sl")
  | (apply pxT; fail "st")
  | (refine iteTI rfl ?_)
  | (refine iteFI Bool.false_ne_true ?_)
  | (refine iteTI ?_ ?_; (simp [*]; done))
  | (refine iteFI ?_ ?_; (simp [*]; done))
  | (refine And.intro ?_ ?_; first | decide | (simp only [List.length_append, List.length_cons, List.length_nil]; decide)))
local macro_rules | `(tactic| fail "sx") => `(tactic| repeat (fail "sx1"))
local macro_rules | `(tactic| fail "tx1") => `(tactic| (conv => whnf); first
  | (refine fun _ => ?_; fail "nw")
  | (refine fun _ => ?_)
  | (refine wipe_1 (by decide) ?_; fail "ns")
  | (refine wipe_2 (by decide) (by decide) ?_; fail "ns")
  | (refine ⟨_, rfl, ?_⟩)
  | (refine ⟨rfl, ?_⟩)
  | (refine ⟨_, _, rfl, rfl, ?_⟩)
  | (refine ⟨_, _, rfl, ?_⟩)
  | (refine ⟨_, _, _, rfl, ?_⟩)
  | apply un_forR
  | (apply un_forL; fail "sl")
  | (apply un_forT; fail "st")
  | (apply un_forZ; fail "sl")
  | (apply un_forZT; fail "st")
  | (apply un_forZM; fail "sl")
  | (apply un_forE; fail "st")
  | apply un_inR
  | (apply tyI; fail "sl")
  | (apply dpI; fail "dp"; fail "dp"; rfl; rfl)
  | (apply gtI; fail "st"; rfl)
  | apply isi_ii
  | apply isi_ib
  | (apply isi_tt; fail "st")
  | refine divN1 ?_
  | (apply nx_range; exact Nat.le_of_ble_eq_true rfl)
  | (apply nx_list; fail "sl"; rfl)
  | (apply nx_tup; fail "st"; rfl)
  | (apply nx_zip; fail "sl"; fail "sl"; rfl; rfl)
  | (apply nx_zipT; fail "st"; fail "st"; rfl; rfl)
  | (apply nx_zipM; fail "sl"; fail "st"; rfl; rfl)
  | (apply nx_enumT; fail "st"; rfl)
  | (apply st_range; fail "ln")
  | (apply st_list; fail "sl"; fail "ln")
  | (apply st_tup; fail "st"; fail "ln")
  | (apply st_zip; fail "sl"; fail "sl"; fail "ln")
  | (apply st_zipT; fail "st"; fail "st"; fail "ln")
  | (apply st_zipM; fail "sl"; fail "st"; rfl; rfl)
  | (apply st_enumT; fail "st"; rfl)
  | (apply mulR; with_reducible assumption)
  | (apply mulL; with_reducible assumption)
  | (apply accI; fail "lk"; fail "ln")
  | (apply apdI; fail "lk"; fail "ln")
  | (apply ixLI; fail "sl"; rfl)
  | (apply ixTI; fail "st"; rfl)
  | (apply setI; fail "lk"; rfl)
  | (apply slLI; fail "sl")
  | (apply sum2I; fail "sl")
  | (apply rep2I; fail "lk"; exact Nat.le_of_ble_eq_true rfl)
  | (refine And.intro (lg_small ?_) ?_; omega)
  | (apply joinI3; fail "sl"; fail "lg"; fail "lg"; fail "lg"; decide)
  | (apply enI; fail "st")
  | (apply enL; fail "sl")
  | (apply ppL; fail "sl")
  | (apply ppT; fail "st")
  | (apply pqL; fail "sl")
  | (apply pqT; fail "st")
  | (apply pzL; fail "sl"; fail "sl")
  | (apply pzT; fail "st"; fail "st")
  | (apply pzM; fail "sl"; fail "st")
  | (refine Or.inl ⟨_, rfl, ?_⟩)
  | (refine Or.inr ⟨_, rfl, ?_⟩)
  | (apply pxL; fail "sl")
  | (apply pxT; fail "st")
  | (refine iteTI rfl ?_)
  | (refine iteFI Bool.false_ne_true ?_)
  | (refine iteTI ?_ ?_; (simp [*]; done))
  | (refine iteFI ?_ ?_; (simp [*]; done))
  | (refine And.intro ?_ ?_; first | decide | (simp only [List.length_append, List.length_cons, List.length_nil]; decide)))
local macro_rules | `(tactic| fail "tx") => `(tactic| repeat (fail "tx1"))
local macro_rules | `(tactic| fail "om") => `(tactic| first
  | omega
  | (dsimp only; omega)
  | (split <;> omega)
  | (dsimp only; split <;> omega))
local macro_rules | `(tactic| fail "bx1") => `(tactic| first
  | (refine iteD (fun _ => ?_) (fun _ => ?_))
  | (refine iteN (fun _ => ?_) (fun _ => ?_))
  | (refine iteE (fun _ => ?_) (fun _ => ?_))
  | (refine iteTI rfl ?_)
  | (refine iteFI Bool.false_ne_true ?_)
  | (refine ⟨_, rfl, ?_⟩)
  | (refine ⟨_, _, rfl, rfl, ?_⟩)
  | (refine ⟨rfl, ?_⟩)
  | (refine ⟨_, _, rfl, ?_⟩)
  | (apply mulR; with_reducible assumption)
  | (apply mulL; with_reducible assumption)
  | (apply mulL; refine ⟨?_, ?_⟩ <;> fail "om")
  | (apply powI; fail "om"))
local macro_rules | `(tactic| fail "bx") => `(tactic| repeat' (fail "bx1"))

/-- the leading form, as a function -/
def ldM (t : T3) : T3 := match redC 12 t with
  | none => t
  | some r => if dsc r < 0 then r else (match ringC 50 r (stepM r) with
    | none => r
    | some rs => minT r rs)
theorem leadsF_sub : ∀ (k : Nat) (l : List T3) (x : T3), x ∈ leadsF k l → x ∈ l
  | 0, _, _, h => nomatch h
  | _ + 1, [], _, h => nomatch h
  | k + 1, t :: r, x, h => by
    rcases List.mem_cons.mp (show x ∈ t :: leadsF k ((t :: r).filter fun x => !decide (x ∈ rgM t)) from h) with h | h
    · rw [h]; exact List.mem_cons_self
    · exact (List.mem_filter.mp (leadsF_sub k _ x h)).1
/-- what the walk leans on of numbers alone -/
structure PLaw : Prop where
  a1 : ∀ D, -400 ≤ D → D ≤ -3 → isD D = true → ∀ t ∈ arL D, GoodR t ∧ 0 < t.1 ∧ 0 < t.2.2 ∧ t.1 ≤ 400 ∧ t.2.2 ≤ 400 ∧ t.2.1.natAbs ≤ 400 ∧ dsc t < 0
  a2 : ∀ D n, -400 ≤ D → D ≤ -3 → isD D = true → 1 ≤ n → n ≤ 60 → ∀ t ∈ formsW D n (2 * n.natAbs), LdOk t (ldM t)
  a3 : ∀ D n, -400 ≤ D → D ≤ -3 → isD D = true → 1 ≤ n → n ≤ 60 → ∀ ts us : List T3, ts.Pairwise (fun x y => leT x y = true) → (∀ x, x ∈ ts ↔ x ∈ arL D) → SrtT us → (∀ x, x ∈ us ↔ ∃ t ∈ formsW D n (2 * n.natAbs), ldM t = x) → us = (leadsF ts.length ts).filter fun x => hasM x n
  a4 : ∀ D n, -400 ≤ D → D ≤ -3 → 1 ≤ n → n ≤ 60 → formsW D (-n) (2 * (-n).natAbs) = []
  b1 : ∀ D, 5 ≤ D → D ≤ 400 → isD D = true → ∀ t ∈ arL D, GoodR t
  b2 : ∀ D, 5 ≤ D → D ≤ 400 → isD D = true → RgOk D
  b3 : ∀ D n, 5 ≤ D → D ≤ 400 → isD D = true → n ≠ 0 → n.natAbs ≤ 60 → ∀ t ∈ formsW D n (2 * n.natAbs), LdOk t (ldM t)
  b4 : ∀ D n, 5 ≤ D → D ≤ 400 → isD D = true → n ≠ 0 → n.natAbs ≤ 60 → 4 * n * n < D → ∀ ts us : List T3, ts.Pairwise (fun x y => leT x y = true) → (∀ x, x ∈ ts ↔ x ∈ arL D) → SrtT us → (∀ x, x ∈ us ↔ ∃ t ∈ formsW D n (2 * n.natAbs), ldM t = x) →
    us = (leadsF ts.length ts).filter fun x => !((rgM x).filter fun y => decide (y.1 = n)).isEmpty
  b5 : ∀ D n, 5 ≤ D → D ≤ 400 → isD D = true → n ≠ 0 → n.natAbs ≤ 60 → ∀ t ∈ formsW D n (2 * n.natAbs), inRF D (ldM t) ∧ ∀ y ∈ rgM (ldM t), ltT y (ldM t) = false
  c1 : ∀ D n, D ≠ 0 → n ≠ 0 → (0 < D ∨ 0 < n) → n.natAbs ≤ 60 → Int.gcd D n = 1 → ∀ us : List T3, (∀ x, x ∈ us ↔ ∃ t ∈ formsW D n (2 * n.natAbs), ldM t = x) → us.isEmpty = !sqM D n
  c2 : (∀ t ∈ formsW (-20) 7 (2 * (7 : Int).natAbs), LdOk t (ldM t)) ∧ ∃ t ∈ formsW (-20) 7 (2 * (7 : Int).natAbs), ldM t = (2, 2, 3)
theorem tups_of {K : PySem.W.Frag} {H : Hp} : ∀ {ys : List V} {ts : List T3}, ys.length = ts.length → (∀ (i : Nat) y, ys[i]? = some y → RTup K ts i y H) → ∃ bs, ys = rf bs ∧ TupsAt K H bs ∧ bs.map (·.2) = ts
  | [], [], _, _ => ⟨[], rfl, fun b hb => (nomatch hb), rfl⟩
  | [], _ :: _, h, _ => by cases h
  | _ :: _, [], h, _ => by cases h
  | y :: ys, t :: ts, h, hy => by
    obtain ⟨p, u, e1, e2, e3⟩ := hy 0 y rfl
    cases e2
    obtain ⟨bs, f1, f2, f3⟩ := tups_of (ys := ys) (ts := ts) (Nat.succ.inj h) fun i z hz => by
      obtain ⟨p, u, g1, g2, g3⟩ := hy (i + 1) z hz
      exact ⟨p, u, g1, g2, g3⟩
    refine ⟨(p, t) :: bs, by rw [f1, e1]; rfl, fun b hb => ?_, by rw [List.map_cons, f3]⟩
    rcases List.mem_cons.mp hb with rfl | hb
    · exact e3
    · exact f2 b hb
theorem shaped_two (a b : List T3) : SeqAt.shaped (.list [.list (a.map d3), .list (b.map d3)]) = true := by
  have h1 : PyData.canLay0 (.list [.list (a.map d3), .list (b.map d3)]) = true := by
    show (PyData.canLayAll0 (a.map d3) && (PyData.canLayAll0 (b.map d3) && true)) = true
    rw [canLayAll_d3, canLayAll_d3]
    rfl
  have h2 : PyData.depth (.list [.list (a.map d3), .list (b.map d3)]) ≤ 64 := by
    have := depth_all a
    have := depth_all b
    simp only [PyData.depth, PyData.depthAll]
    omega
  unfold SeqAt.shaped
  rw [h1, decide_eq_true h2]
  rfl
theorem eqv_two (a b : List T3) : PyData.eqv (.list [.list (a.map d3), .list (b.map d3)]) (.list [.list (a.map d3), .list (b.map d3)]) = true := by
  have e1 := eqv_list a a
  have e2 := eqv_list b b
  rw [decide_eq_true rfl] at e1 e2
  show (PyData.eqv (.list (a.map d3)) (.list (a.map d3)) && (PyData.eqv (.list (b.map d3)) (.list (b.map d3)) && true)) = true
  rw [e1, e2]
  rfl
theorem len_leadsF : ∀ (k : Nat) (l : List T3), (leadsF k l).length ≤ k
  | 0, _ => Nat.le_refl _
  | _ + 1, [] => Nat.zero_le _
  | k + 1, t :: r => Nat.succ_le_succ (len_leadsF k _)
theorem goodR_ring {t : T3} (h : GoodR t) : ∃ rs, rgM t = t :: rs ∧ ((dsc t < 0 ∧ rs = []) ∨ (¬ dsc t < 0 ∧ (∀ s ∈ t :: rs, RdN s) ∧ ringC 50 t (stepM t) = some rs)) := by
  rcases h.ring with g1 | ⟨g1, ⟨rs, g2⟩, g3⟩
  · exact ⟨[], by unfold rgM; rw [if_pos g1], .inl ⟨g1, rfl⟩⟩
  · have e2 : rgM t = t :: rs := by unfold rgM; rw [if_neg g1, g2]; rfl
    exact ⟨rs, e2, .inr ⟨g1, e2 ▸ g3, g2⟩⟩
theorem dec_nil (l : List T3) : (!decide (l = [])) = !l.isEmpty := by cases l <;> simp
theorem cutK {H0 : Hp} {K : Hp → Prop} {G : Prop} (main : (∀ H, Same H0 H → K H) → G) (later : ∀ H, Same H0 H → K H) : G := main later
theorem cutO {H0 : Hp} {K : Option V → Hp → Prop} {G : Prop} (main : (∀ o H, Same H0 H → K o H) → G) (later : ∀ o H, Same H0 H → K o H) : G := main later
theorem sx_trans {o : Addr} {H H1 H2 : Hp} (h : SameX o H H1) (h2 : SameX o H1 H2) : SameX o H H2 := fun b u n hb => h2 b u n (h b u n hb)
theorem jar_same {H H' : Hp} {p : Addr} (h : Jar H p) (s : Same H H') : Jar H' p := by
  obtain ⟨a, b, c, h1, h2⟩ := h
  exact ⟨a, b, c, s _ _ h1, h2⟩
section
variable {P : Program} {w : World} {K : PySem.W.Frag} {mg : Str → Option Value} {base : Heap} {f : Addr} {fd : FuncData} {C : Addr}
structure spRight (vs : List V) (H : Hp) (Q : VK) (E : XK) : Prop where
  ex : ∃ j, vs = [.ref j] ∧ Jar H j ∧ ∀ H', SameX j H H' → Q (.bl true) H'
theorem ok_law_right (L : PLaw) (T : Tx K mg) (EF : EqF P w K mg base C) (CF : MkF P w K mg base C) (CP_coefficients : PrpF P w K mg base C "coefficients" 1 ps_Form_coefficients (spCoef K C))
    (C_law_whole : Cal P w K mg base 3 "_law_whole" ps_law_whole spWhole) (C_law_dip : Cal P w K mg base 1 "_law_dip" ps_law_dip spDip) (C_law_leads : Cal P w K mg base 4 "_law_leads" ps_law_leads (spLeads K)) (C_law_has : Cal P w K mg base 3 "_law_has" ps_law_has (spHas K))
    (C_classes_giving : Cal P w K mg base 12 "classes_giving" ps_classes_giving (spCG K C)) (CK_classes_giving : CalK P w K mg base 12 "classes_giving" ps_classes_giving ["number", "discriminant"] swV swV (spCG K C)) (C_law_gcd : Cal P w K mg base 1 "_law_gcd" ps_law_gcd spGcd)
    (C_law_is_square_rest : Cal P w K mg base 1 "_law_is_square_rest" ps_law_is_square_rest spSqr) (C_law_one_of : Cal P w K mg base 2 "_law_one_of" ps_law_one_of spOne) (C_law_root : Cal P w K mg base 1 "_law_root" ps_law_root spRoot) (C_law_ring : Cal P w K mg base 3 "_law_ring" ps_law_ring (spLring K))
    (C_classes : Cal P w K mg base 12 "classes" ps_classes (spCls K C)) (F : FnP K "_law_right" s_law_right f fd) : FnOk P w K mg base CX0 13 f fd ps_law_right spRight := by
  refine F.ok sc_law_right (fun vs H Q E h => ?_) (fun cdv A outer s H vs Q E hr h => ?_)
  · obtain ⟨j, rfl, _⟩ := h
    rfl
  · obtain ⟨j, rfl, hj, k⟩ := h
    refine ⟨_, PSs.nox (pss_cons (ps_for PassesOwn.never rfl (pi_range1 (by rfl) T.b_range (pa_cons pe_int pa_nil)) (pg_name (i := 1) sc_law_right.nd rfl (by first | exact Or.inl rfl | exact Or.inr rfl))
    (pss_cons (ps_set (i := 2) sc_law_right.nd rfl (by first | exact Or.inl rfl | exact Or.inr rfl) (pe_cal C_law_whole hr (pa_cons (pv 0) (pa_cons (pe_un un_neg pe_int) (pa_cons (pe_un un_neg pe_int) pa_nil)))))
    (pss_cons (ps_set (i := 3) sc_law_right.nd rfl (by first | exact Or.inl rfl | exact Or.inr rfl) (pe_op op_add pe_int (pe_cal C_law_dip hr (pa_cons (pv 0) (pa_cons pe_int pa_nil)))))
    (pss_cons (ps_setLc (i := 4) (own := [("_law_own", 6)]) rfl sc_law_right.nd rfl rfl (sw_true rfl rfl rfl (by decide +kernel)) (k_pl (K := K) rfl (pe_cal C_law_leads hr (pa_cons (pv 2) pa_nil))) (blkOk_by (own := [("_law_own", 6)]) (by kernel_rfl)) (fun _ _ _ _ _ => (pg_name (i := 6) sc_law_right.nd rfl (by first | exact Or.inl rfl | exact Or.inr rfl))) (fun _ _ _ _ _ => pts_one (pt_val (pe_cal C_law_has hr (pa_cons (pv 6) (pa_cons (pv 3) pa_nil))))) (fun _ _ _ _ _ => (pv 6)))
    (pss_cons (ps_set (i := 5) sc_law_right.nd rfl (Or.inl rfl) (pe_lst (pa_cons (pe_lc (own := [("_law_each", 7)]) rfl sc_law_right.nd (k_pt (K := K) rfl (pe_cal C_classes_giving hr (pa_cons (pv 2) (pa_cons (pv 3) pa_nil)))) (blkOk_by (own := [("_law_each", 7)]) (by kernel_rfl)) (fun _ _ _ _ _ => (pg_name (i := 7) sc_law_right.nd rfl (by first | exact Or.inl rfl | exact Or.inr rfl))) (fun _ _ _ _ _ => pts_nil) (fun _ _ _ _ _ => (pe_prp CP_coefficients hr (pv 7)))) pa_nil)))
    (pss_cons (ps_expr (pe_bm PySem.F.plainAttrs_list PySem.F.slot_list_append PySem.F.type_list_append mt_append (pv 5) (pa_cons (pe_lc (own := [("_law_each", 7)]) rfl sc_law_right.nd (k_pt (K := K) rfl (pe_calK CK_classes_giving hr (pk_cons (pv 3) (pk_cons (pv 2) pk_nil)))) (blkOk_by (own := [("_law_each", 7)]) (by kernel_rfl)) (fun _ _ _ _ _ => (pg_name (i := 7) sc_law_right.nd rfl (by first | exact Or.inl rfl | exact Or.inr rfl))) (fun _ _ _ _ _ => pts_nil) (fun _ _ _ _ _ => (pe_prp CP_coefficients hr (pv 7)))) pa_nil)))
    (pss_cons (ps_if (PW.pt (pw_or (pt_cmpR (k_ne (K := K) rfl hr.units) (pv 5) (pe_lst (pa_cons (pv 4) (pa_cons (pv 4) pa_nil))) (nomark _)) (pw_or1 (pt_cmpR (k_ne (K := K) rfl hr.units) (pe_cal C_classes_giving hr (pa_cons (pv 2) (pa_cons (pe_un un_neg (pv 3)) pa_nil))) (pe_tup pa_nil) (nomark _)))))
    (pss_one (ps_ret pe_bl))
    pss_nil)
    (pss_cons (ps_if (PW.pt (pw_and (pt_cmpR op_eq (pe_cal C_law_gcd hr (pa_cons (pv 2) (pa_cons (pv 3) pa_nil))) pe_int (nomark _)) (pw_and1 (pt_cmpR op_ne (pe_cmpR (k_ne (K := K) rfl hr.units) (pv 4) (pe_lst pa_nil) (nomark _)) (pe_cal C_law_is_square_rest hr (pa_cons (pv 2) (pa_cons (pv 3) pa_nil))) (nomark _)))))
    (pss_one (ps_ret pe_bl))
    pss_nil)
    (pss_cons (ps_set (i := 2) sc_law_right.nd rfl (by first | exact Or.inl rfl | exact Or.inr rfl) (pe_cal C_law_whole hr (pa_cons (pv 0) (pa_cons pe_int (pa_cons pe_int pa_nil)))))
    (pss_cons (ps_set (i := 3) sc_law_right.nd rfl (by first | exact Or.inl rfl | exact Or.inr rfl) (pe_op op_mul (pe_cal C_law_one_of hr (pa_cons (pv 0) (pa_cons (pe_lst (pa_cons pe_int (pa_cons (pe_un un_neg pe_int) pa_nil))) pa_nil))) (pe_op op_add pe_int (pe_cal C_law_dip hr (pa_cons (pv 0) (pa_cons (pe_callB (call_max2 rfl) (by rfl) T.b_max (by decide +kernel) (pa_cons pe_int (pa_cons (pe_op op_fdivN (pe_cal C_law_root hr (pa_cons (pv 2) pa_nil)) pe_int) pa_nil))) pa_nil))))))
    (pss_cons (ps_if (pt_cmpR op_lt (pe_op op_mul (pe_op op_mul pe_int (pv 3)) (pv 3)) (pv 2) (nomark _))
    (pss_cons (ps_setLc (i := 4) (own := [("_law_own", 6)]) rfl sc_law_right.nd rfl rfl (sw_true rfl rfl rfl (by decide +kernel)) (k_pl (K := K) rfl (pe_cal C_law_leads hr (pa_cons (pv 2) pa_nil))) (blkOk_by (own := [("_law_own", 6)]) (by kernel_rfl)) (fun _ _ _ _ _ => (pg_name (i := 6) sc_law_right.nd rfl (by first | exact Or.inl rfl | exact Or.inr rfl))) (fun _ _ _ _ _ => pts_one (pt_cmpR (k_ne (K := K) rfl hr.units) (pe_lc (own := [("_law_each", 7)]) rfl sc_law_right.nd (k_pl (K := K) rfl (pe_cal C_law_ring hr (pa_cons (pv 6) pa_nil))) (blkOk_by (own := [("_law_each", 7)]) (by kernel_rfl)) (fun _ _ _ _ _ => (pg_name (i := 7) sc_law_right.nd rfl (by first | exact Or.inl rfl | exact Or.inr rfl))) (fun _ _ _ _ _ => pts_one (pt_cmpR op_eq (pe_ix (k_ixt (K := K) rfl) (pv 7) pe_int (fun _ _ => rfl)) (pv 3) (nomark _))) (fun _ _ _ _ _ => (pv 7))) (pe_lst pa_nil) (nomark _))) (fun _ _ _ _ _ => (pv 6)))
    (pss_one (ps_if (pt_cmpR (k_ne (K := K) rfl hr.units) (pe_lc (own := [("_law_each", 7)]) rfl sc_law_right.nd (k_pt (K := K) rfl (pe_cal C_classes_giving hr (pa_cons (pv 2) (pa_cons (pv 3) pa_nil)))) (blkOk_by (own := [("_law_each", 7)]) (by kernel_rfl)) (fun _ _ _ _ _ => (pg_name (i := 7) sc_law_right.nd rfl (by first | exact Or.inl rfl | exact Or.inr rfl))) (fun _ _ _ _ _ => pts_nil) (fun _ _ _ _ _ => (pe_prp CP_coefficients hr (pv 7)))) (pv 4) (nomark _))
    (pss_one (ps_ret pe_bl))
    pss_nil)))
    pss_nil)
    (pss_cons (ps_set (i := 3) sc_law_right.nd rfl (by first | exact Or.inl rfl | exact Or.inr rfl) (pe_op op_mul (pe_cal C_law_one_of hr (pa_cons (pv 0) (pa_cons (pe_lst (pa_cons pe_int (pa_cons (pe_un un_neg pe_int) pa_nil))) pa_nil))) (pe_op op_add pe_int (pe_cal C_law_dip hr (pa_cons (pv 0) (pa_cons pe_int pa_nil))))))
    (pss_cons (ps_set (i := 5) sc_law_right.nd rfl (Or.inl rfl) (pe_cal C_classes_giving hr (pa_cons (pv 2) (pa_cons (pv 3) pa_nil))))
    (pss_cons (ps_if (pt_cmpR (k_ne (K := K) rfl hr.units) (pe_lc (own := [("_law_each", 7)]) rfl sc_law_right.nd (k_pt (K := K) rfl (pv 5)) (blkOk_by (own := [("_law_each", 7)]) (by kernel_rfl)) (fun _ _ _ _ _ => (pg_name (i := 7) sc_law_right.nd rfl (by first | exact Or.inl rfl | exact Or.inr rfl))) (fun _ _ _ _ _ => pts_one (pt_cmpR (k_notInF (K := K) rfl EF hr) (pv 7) (pe_cal C_classes hr (pa_cons (pv 2) pa_nil)) (by rfl))) (fun _ _ _ _ _ => (pv 7))) (pe_lst pa_nil) (nomark _))
    (pss_one (ps_ret pe_bl))
    pss_nil)
    (pss_one (ps_if (PW.pt (pw_and (pt_cmpR op_eq (pe_cal C_law_gcd hr (pa_cons (pv 2) (pa_cons (pv 3) pa_nil))) pe_int (nomark _)) (pw_and1 (pt_cmpR op_ne (pe_cmpR (k_neT0 (K := K) rfl (Nat.lt_of_succ_lt (hu1 hr))) (pv 5) (pe_tup pa_nil) (nomark _)) (pe_cal C_law_is_square_rest hr (pa_cons (pv 2) (pa_cons (pv 3) pa_nil))) (nomark _)))))
    (pss_one (ps_ret pe_bl))
    pss_nil))))))))))))))))
    (pss_one (ps_ret (pe_cmpR (k_inF (K := K) rfl EF hr) (pe_form CF hr (pa_cons (pe_tup (pa_cons pe_int (pa_cons pe_int (pa_cons pe_int pa_nil)))) pa_nil)) (pe_cal C_classes_giving hr (pa_cons (pe_un un_neg pe_int) (pa_cons pe_int pa_nil))) (by rfl))))), ?_⟩
    fail "rd"
    refine ⟨by decide, by decide, ?_⟩
    refine for_range (lo := 0) (n := Int.toNat 3) (fun i σ H' => ∃ o1 o2 o3 o4 o5, σ = [some (.ref j), o1, o2, o3, o4, o5, none, none] ∧ SameX j H H' ∧ Jar H' j)
      ⟨none, none, none, none, none, rfl, fun b u _ hb => hb, hj⟩ (fun i σ H' hi hI => ?_) (fun σ H' hI => ?_)
    · obtain ⟨o1, o2, o3, o4, o5, rfl, hx, hj'⟩ := hI
      fail "rd"
      refine ⟨hj', .inl ⟨rfl, rfl⟩, fun H1 D x1 hj1 d0 d1 hD => ?_⟩
      fail "rd"
      refine ⟨hj1, by decide, by decide, fun H2 r x2 hj2 r0 r1 => ?_⟩
      have xA : SameX j H H2 := sx_trans hx (sx_trans x1 x2)
      have n0 : 1 ≤ 1 + r := by omega
      have n1 : 1 + r ≤ 60 := by omega
      clear hx x1 x2 hj' hj1
      fail "rd"
      dsimp only
      generalize (1 : Int) + r = n at *
      refine ⟨by omega, by omega, fun t ht => (L.a1 D d0 d1 hD t ht).1, fun H3 q3 bs3 ts3 s3 q30 hq3 hT3 hsrt hmem hlen hleads => ?_⟩
      fail "rd"
      have hbl : bs3.length ≤ 6400 := by
        have e1 := congrArg List.length hleads
        have e2 := len_leadsF ts3.length ts3
        rw [List.length_map] at e1
        omega
      refine ⟨⟨_, SqL.of hq3⟩, fun D4 hD4 => ?_⟩
      refine lc_filtL (fun b : Addr × T3 => V.ref b.1) bs3 (fun b => hasM b.2 n) hD4 (SqL.of hq3) (by omega) (fun z hz H5 Qt Qn s5 kt kn => ?_) (fun H4 s4 hd4 => ?_)
      · have hza : z.2 ∈ arL D := (hmem _).mp (leadsF_sub _ _ _ (by rw [← hleads]; exact List.mem_map_of_mem hz))
        obtain ⟨_, z1, z2, z3, z4, z5, z6⟩ := L.a1 D d0 d1 hD z.2 hza
        fail "rd"
        refine ⟨⟨z.1, z.2, n, rfl, same_tup s5 (hT3 z hz), z1, z2, z3, z4, z5, z6, n0, n1, fun H6 s6 => ?_⟩⟩
        fail "rd"
        refine iteB (fun h1 => ?_) (fun h1 => ?_)
        · fail "rd"
          exact kt h1 _ s6
        · exact kn h1 _ s6
      have hT4 : TupsAt K H4 (bs3.filter fun b => hasM b.2 n) := fun b hb => same_tup s4 (hT3 b (List.mem_filter.mp hb).1)
      have hdue : (bs3.filter fun b => hasM b.2 n).map (·.2) = (leadsF ts3.length ts3).filter fun x => hasM x n := by
        rw [← hleads, List.filter_map]
        rfl
      have hdl : (bs3.filter fun b => hasM b.2 n).length ≤ 6400 := Nat.le_trans (List.length_filter_le _ _) hbl
      have sB : Same H2 H4 := s3.trans s4
      clear hq3 hT3
      generalize (bs3.filter fun b => hasM b.2 n) = bsD at *
      fail "rd"
      refine ⟨ldM, hD, by omega, by omega, by omega, by omega, L.a2 D n d0 d1 hD n0 n1, fun H5 q5 fs5 us5 s5 hq5 hF5 hs5 hl5 hm5 => ?_⟩
      have hu5 := (L.a3 D n d0 d1 hD n0 n1 ts3 us5 hsrt hmem hs5 hm5).trans hdue.symm
      fail "rd"
      refine ⟨⟨_, hq5⟩, fun D6 hD6 => ?_⟩
      refine lc_mapT (RTup K us5) stab_tup hD6 hq5 (by rw [List.length_map, (hF5).1]; omega) (fun i x H5 Qc hi s5 kq => ?_) (fun H6 ys s6 hd6 hl5 hy5 => ?_)
      · obtain ⟨p5, hp5, rfl⟩ : ∃ p, fs5[i]? = some p ∧ x = V.ref p := by
          rw [List.getElem?_map] at hi
          cases e : fs5[i]? with
          | none => rw [e] at hi; cases hi
          | some p => rw [e] at hi; exact ⟨p, rfl, (Option.some.inj hi).symm⟩
        have hil : i < (us5).length := by rw [← (hF5).1]; exact (List.getElem?_eq_some_iff.mp hp5).1
        have hti := List.getElem?_eq_getElem hil
        fail "rd"
        refine prCoef (form_same ((hF5).2 i p5 _ hp5 hti) s5) fun p6 g7 => ?_
        exact kq _ _ (Same.refl _) ⟨p6, _, rfl, hti, g7⟩
      obtain ⟨bs6, rfl, hT6, hm6⟩ := tups_of (by rw [hl5, List.length_map, (hF5).1]) hy5
      fail "rd"
      refine ⟨by show 1 ≤ sizeLine; decide, fun P7 hP7 => ?_⟩
      have s7 : Same H6 (upd H6 P7 (.lst [.ref D6])) := same_new hP7
      fail "rd"
      refine ⟨.inl ⟨rfl, _, SqL.of upd_same⟩, ?_⟩
      fail "rd"
      refine ⟨ldM, hD, by omega, by omega, by omega, by omega, L.a2 D n d0 d1 hD n0 n1, fun H8 q8 fs8 us8 s8 hq8 hF8 hs8 hl8 hm8 => ?_⟩
      have hu8 := (L.a3 D n d0 d1 hD n0 n1 ts3 us8 hsrt hmem hs8 hm8).trans hdue.symm
      fail "rd"
      refine ⟨⟨_, hq8⟩, fun D9 hD9 => ?_⟩
      refine lc_mapT (RTup K us8) stab_tup hD9 hq8 (by rw [List.length_map, (hF8).1]; omega) (fun i x H5 Qc hi s5 kq => ?_) (fun H9 ys s9 hd9 hl5 hy5 => ?_)
      · obtain ⟨p5, hp5, rfl⟩ : ∃ p, fs8[i]? = some p ∧ x = V.ref p := by
          rw [List.getElem?_map] at hi
          cases e : fs8[i]? with
          | none => rw [e] at hi; cases hi
          | some p => rw [e] at hi; exact ⟨p, rfl, (Option.some.inj hi).symm⟩
        have hil : i < (us8).length := by rw [← (hF8).1]; exact (List.getElem?_eq_some_iff.mp hp5).1
        have hti := List.getElem?_eq_getElem hil
        fail "rd"
        refine prCoef (form_same ((hF8).2 i p5 _ hp5 hti) s5) fun p6 g7 => ?_
        exact kq _ _ (Same.refl _) ⟨p6, _, rfl, hti, g7⟩
      obtain ⟨bs9, rfl, hT9, hm9⟩ := tups_of (by rw [hl5, List.length_map, (hF8).1]) hy5
      have hP8 : H8 P7 = some (.lst [.ref D6]) := s8 _ _ upd_same
      have hP9 : H9 P7 = some (.lst [.ref D6]) := s9 _ _ hP8
      fail "rd"
      refine ⟨_, _, _, rfl, rfl, hP9, by show 1 < sizeLine; decide, ?_⟩
      have s69 : Same H6 H9 := s7.trans (s8.trans s9)
      have s46 : Same H4 H6 := s5.trans s6
      have nD9 : D9 ≠ P7 := fun e => by rw [e, hP8] at hD9; cases hD9
      have sC : Same H4 (upd H9 P7 (.lst ([.ref D6] ++ [.ref D9]))) := same_mut (s46.trans s69) (same_none s46 hP7)
      have sD : Same H6 (upd H9 P7 (.lst ([.ref D6] ++ [.ref D9]))) := same_mut s69 hP7
      have hd9' : upd H9 P7 (.lst ([.ref D6] ++ [.ref D9])) D9 = some (.lst (rf bs9)) := (upd_ne nD9).trans hd9
      have hT9' : TupsAt K (upd H9 P7 (.lst ([.ref D6] ++ [.ref D9]))) bs9 := tups_upd hP9 hT9
      have hP' : upd H9 P7 (.lst ([.ref D6] ++ [.ref D9])) P7 = some (.lst [.ref D6, .ref D9]) := upd_same
      clear hd9 hT9 hP9
      generalize upd H9 P7 (.lst ([.ref D6] ++ [.ref D9])) = HA at *
      fail "rd"
      refine ⟨by show 2 ≤ sizeLine; decide, fun PB hPB => ?_⟩
      have sE : Same HA (upd HA PB (.lst [.ref D4, .ref D4])) := same_new hPB
      have e6 := dp_lst (SqL.of (sE _ _ (sD _ _ hd6))) (tups_same (tups_same hT6 sD) sE)
      have e9 := dp_lst (SqL.of (sE _ _ hd9')) (tups_same hT9' sE)
      have e4 := dp_lst (SqL.of (sE _ _ (sC _ _ hd4))) (tups_same (tups_same hT4 sC) sE)
      rw [hm6, hu5] at e6
      rw [hm9, hu8] at e9
      refine ⟨.list [.list ((bsD.map (·.2)).map d3), .list ((bsD.map (·.2)).map d3)], .list [.list ((bsD.map (·.2)).map d3), .list ((bsD.map (·.2)).map d3)], .lst (SqL.of (sE _ _ hP')) (.cons e6 (.cons e9 .nil)), .lst (SqL.of upd_same) (.cons e4 (.cons e4 .nil)), shaped_two _ _, shaped_two _ _, ?_⟩
      rw [eqv_two]
      have hd4E := sE _ _ (sC _ _ hd4)
      have hT4E := tups_same (tups_same hT4 sC) sE
      have sF : Same H2 (upd HA PB (.lst [.ref D4, .ref D4])) := sB.trans (sC.trans sE)
      have hjE := jar_same hj2 sF
      have xE : SameX j H (upd HA PB (.lst [.ref D4, .ref D4])) := sx_same xA sF
      clear e6 e9 e4 hd9' hT9' hP' sC sD sE hd6 hT6
      generalize upd HA PB (.lst [.ref D4, .ref D4]) = HB at *
      fail "rd"
      refine ⟨ldM, hD, by omega, by omega, by omega, by omega, fun t ht => (by rw [L.a4 D n d0 d1 n0 n1] at ht; exact nomatch ht), fun HC qC fsC usC sG hqC hFC hsC hlC hmC => ?_⟩
      have huC : usC = [] := by
        refine List.eq_nil_iff_forall_not_mem.mpr fun x hx => ?_
        obtain ⟨t, ht, _⟩ := (hmC x).mp hx
        rw [L.a4 D n d0 d1 n0 n1] at ht
        cases ht
      have hfC : fsC = [] := List.length_eq_zero_iff.mp (by rw [hFC.1, huC]; rfl)
      rw [hfC] at hqC
      fail "rd"
      refine ⟨Nat.zero_le _, fun PD hPD => ?_⟩
      refine ⟨.tuple [], .tuple [], .tup (same_tup (same_new hPD) hqC) .nil, .tup (SqT.of upd_same) .nil, rfl, rfl, ?_⟩
      have sG2 : Same HB (upd HC PD (.tup [])) := sG.trans (same_new hPD)
      have hemp : (bsD.map (·.2)).isEmpty = !sqM D n ∨ Int.gcd D n ≠ 1 := by
        by_cases hg : Int.gcd D n = 1
        · left
          rw [← hu5]
          exact L.c1 D n (by omega) (by omega) (.inr (by omega)) (by omega) hg us5 hm5
        · exact .inr hg
      have hd4F := sG2 _ _ hd4E
      have hT4F := tups_same hT4E sG2
      have hjF := jar_same hjE sG2
      have xF : SameX j H (upd HC PD (.tup [])) := sx_same xE sG2
      clear hqC hFC hsC hlC hmC hPD sG sG2 hd4E hT4E hjE xE
      generalize upd HC PD (.tup []) = HD at *
      fail "rd"
      apply cutK (H0 := HD)
      · intro cont
        fail "rd"
        refine fun HE sH => ?_
        fail "rd"
        refine iteE (fun h1 => ?_) (fun h1 => ?_)
        · fail "rd"
          refine ⟨Nat.zero_le _, fun PF hPF => ?_⟩
          have sI : Same HD (upd HE PF (.lst [])) := sH.trans (same_new hPF)
          refine ⟨.list ((bsD.map (·.2)).map d3), .list (([] : List T3).map d3), dp_lst (SqL.of (sI _ _ hd4F)) (tups_same hT4F sI), .lst (SqL.of upd_same) .nil, shaped_list _, shaped_list _, ?_⟩
          rw [eqv_list]
          fail "rd"
          refine ⟨by omega, by omega, fun HG sJ => ?_⟩
          fail "rd"
          have hv : (!decide (bsD.map (·.2) = [])) = sqM D n := by
            rcases hemp with h | h
            · cases e : bsD.map (·.2) with
              | nil => rw [e] at h; simp at h ⊢; simp [h]
              | cons z zs => rw [e] at h; simp at h ⊢; simp [h]
            · exact absurd (by omega) h
          refine iteFI (by rw [hv]; simp) ?_
          exact cont _ (sI.trans sJ)
        · exact cont _ sH
      · intro HX sX
        have hjX := jar_same hjF sX
        have xX : SameX j H HX := sx_same xF sX
        clear hjF xF hd4F hT4F sX hemp
        fail "rd"
        refine ⟨hjX, .inr ⟨rfl, rfl⟩, fun G1 D2 y1 hjG1 e0 e1 hD2 => ?_⟩
        fail "rd"
        refine ⟨by show 2 ≤ sizeLine; decide, fun PZ hPZ => ?_⟩
        have nPZ : PZ ≠ j := fun e => by
          obtain ⟨a, b, c, g, _⟩ := hjG1
          rw [← e, hPZ] at g
          cases g
        fail "rd"
        refine ⟨jar_same hjG1 (same_new hPZ), nPZ, upd_same, fun G2 v y2 hjG2 hv => ?_⟩
        have xG2 : SameX j H G2 := sx_trans (sx_trans xX (sx_same y1 (same_new hPZ))) y2
        clear hjX xX hjG1 y1 y2 nPZ hPZ
        fail "rd"
        refine ⟨by omega, by omega, fun G3 s3g => ?_⟩
        fail "rd"
        refine ⟨⟨by have := isq_nn D2; omega, by decide⟩, ?_⟩
        fail "rd"
        have hw := isq_nn D2
        have hw2 : isq D2 ≤ 20 := by
          have q1 := (isq_ok (v := D2) (by omega) (by omega)).1
          refine Int.not_lt.mp fun h => ?_
          have : 21 * 21 ≤ isq D2 * isq D2 := Int.mul_le_mul h h (by omega) (by omega)
          omega
        have hfd : (isq D2).fdiv 2 = isq D2 / 2 := Int.fdiv_eq_ediv_of_nonneg _ (by decide)
        have hmx : 1 ≤ (if (isq D2).fdiv 2 > 1 then (isq D2).fdiv 2 else 1) ∧ (if (isq D2).fdiv 2 > 1 then (isq D2).fdiv 2 else 1) ≤ 10 := by
          rw [hfd]
          split <;> omega
        dsimp only
        generalize (if (isq D2).fdiv 2 > 1 then (isq D2).fdiv 2 else 1) = mx at *
        refine ⟨jar_same hjG2 s3g, by omega, by omega, fun G4 r2 y4 hjG4 r20 r21 => ?_⟩
        have xG4 : SameX j H G4 := sx_trans (sx_same xG2 s3g) y4
        have mv : Sm v := by rcases hv with rfl | rfl <;> exact ⟨by decide, by decide⟩
        have hn2 : v * (1 + r2) ≠ 0 ∧ (v * (1 + r2)).natAbs ≤ 60 := by
          rcases hv with rfl | rfl
          · rw [Int.one_mul]; omega
          · rw [show -1 * (1 + r2) = -(1 + r2) by omega]; omega
        clear hjG2 xG2 s3g y4 hv
        fail "rd"
        refine ⟨.inl mv, ?_⟩
        fail "rd"
        dsimp only
        generalize v * (1 + r2) = n2 at *
        obtain ⟨n20, n21⟩ := hn2
        have m4 : Sm 4 := ⟨by decide, by decide⟩
        have mn2 : Sm n2 := ⟨by omega, by omega⟩
        apply cutO (H0 := G4)
        · intro cont
          fail "rd"
          refine ⟨.inl m4, ?_⟩
          fail "rd"
          refine ⟨.inr mn2, ?_⟩
          fail "rd"
          refine iteD (fun h4 => ?_) (fun h4 => ?_)
          · fail "rd"
            refine ⟨by omega, by omega, fun t ht => L.b1 D2 e0 e1 hD2 t ht, fun H3 q3 bs3 ts3 s3 q30 hq3 hT3 hsrt hmem hlen hleads => ?_⟩
            fail "rd"
            have hbl : bs3.length ≤ 6400 := by
              have e1 := congrArg List.length hleads
              have e2 := len_leadsF ts3.length ts3
              rw [List.length_map] at e1
              omega
            refine ⟨⟨_, SqL.of hq3⟩, fun D14 hD14 => ?_⟩
            refine lc_filtL (fun b : Addr × T3 => V.ref b.1) bs3 (fun b => !((rgM b.2).filter fun y => decide (y.1 = n2)).isEmpty) hD14 (SqL.of hq3) (by omega) (fun z hz H5 Qt Qn s5 kt kn => ?_) (fun H4 s4 hd4 => ?_)
            · have hza : z.2 ∈ arL D2 := (hmem _).mp (leadsF_sub _ _ _ (by rw [← hleads]; exact List.mem_map_of_mem hz))
              have hgz := L.b1 D2 e0 e1 hD2 z.2 hza
              obtain ⟨rs, erg, hrc⟩ := goodR_ring hgz
              fail "rd"
              refine ⟨⟨z.1, z.2, rs, rfl, same_tup s5 (hT3 z hz), hgz.sml, hrc, fun H6 r6 bs6 s6 r60 hr6 hT6 hm6 => ?_⟩⟩
              rw [← erg] at hm6
              have hb6 : bs6.length ≤ 60 := by
                have e1 := congrArg List.length hm6
                rw [List.length_map, erg] at e1
                rcases hrc with ⟨_, h⟩ | ⟨_, _, h⟩
                · rw [h] at e1
                  have : bs6.length = 1 := e1
                  omega
                · have := ringC_len h
                  have e1 : bs6.length = rs.length + 1 := e1
                  omega
              fail "rd"
              refine ⟨⟨_, SqL.of hr6⟩, fun D7 hD7 => ?_⟩
              refine lc_filtL (fun b : Addr × T3 => V.ref b.1) bs6 (fun b => decide (b.2.1 = n2)) hD7 (SqL.of hr6) (by omega) (fun z2 hz2 H8 Qt2 Qn2 s8 kt2 kn2 => ?_) (fun H7 s7 hd7 => ?_)
              · fail "rd"
                refine ⟨z2.1, _, 0, _, rfl, rfl, same_tup s8 (hT6 z2 hz2), at0, ?_⟩
                fail "rd"
                refine iteE (fun h1 => ?_) (fun h1 => ?_)
                · fail "rd"
                  exact kt2 (decide_eq_true h1) _ (Same.refl _)
                · exact kn2 (decide_eq_false h1) _ (Same.refl _)
              have hT7 : TupsAt K H7 (bs6.filter fun b => decide (b.2.1 = n2)) := fun b hb => same_tup s7 (hT6 b (List.mem_filter.mp hb).1)
              have hm7 : (bs6.filter fun b => decide (b.2.1 = n2)).map (·.2) = (rgM z.2).filter fun y => decide (y.1 = n2) := by
                rw [← hm6, List.filter_map]
                rfl
              generalize (bs6.filter fun b => decide (b.2.1 = n2)) = bs7 at *
              fail "rd"
              refine ⟨Nat.zero_le _, fun PF hPF => ?_⟩
              refine ⟨.list ((bs7.map (·.2)).map d3), .list (([] : List T3).map d3), dp_lst (SqL.of ((same_new hPF) _ _ hd7)) (tups_same hT7 (same_new hPF)), .lst (SqL.of upd_same) .nil, shaped_list _, shaped_list _, ?_⟩
              rw [eqv_list, dec_nil, hm7]
              fail "rd"
              refine iteB (fun h1 => ?_) (fun h1 => ?_)
              · fail "rd"
                exact kt h1 _ (s6.trans (s7.trans (same_new hPF)))
              · exact kn h1 _ (s6.trans (s7.trans (same_new hPF)))
            have hT4 : TupsAt K H4 (bs3.filter fun b => !((rgM b.2).filter fun y => decide (y.1 = n2)).isEmpty) := fun b hb => same_tup s4 (hT3 b (List.mem_filter.mp hb).1)
            have hdue : (bs3.filter fun b => !((rgM b.2).filter fun y => decide (y.1 = n2)).isEmpty).map (·.2) = (leadsF ts3.length ts3).filter fun x => !((rgM x).filter fun y => decide (y.1 = n2)).isEmpty := by
              rw [← hleads, List.filter_map]
              rfl
            generalize (bs3.filter fun b => !((rgM b.2).filter fun y => decide (y.1 = n2)).isEmpty) = bsD2 at *
            fail "rd"
            refine ⟨ldM, hD2, n20, n21, by omega, by omega, L.b3 D2 n2 e0 e1 hD2 n20 n21, fun H8 q8 fs8 us8 s8 hq8 hF8 hs8 hl8 hm8 => ?_⟩
            have hu8 := (L.b4 D2 n2 e0 e1 hD2 n20 n21 h4 ts3 us8 hsrt hmem hs8 hm8).trans hdue.symm
            fail "rd"
            refine ⟨⟨_, hq8⟩, fun D9 hD9 => ?_⟩
            refine lc_mapT (RTup K us8) stab_tup hD9 hq8 (by rw [List.length_map, (hF8).1]; omega) (fun i x H5 Qc hi s5 kq => ?_) (fun H9 ys s9 hd9 hl5 hy5 => ?_)
            · obtain ⟨p5, hp5, rfl⟩ : ∃ p, fs8[i]? = some p ∧ x = V.ref p := by
                rw [List.getElem?_map] at hi
                cases e : fs8[i]? with
                | none => rw [e] at hi; cases hi
                | some p => rw [e] at hi; exact ⟨p, rfl, (Option.some.inj hi).symm⟩
              have hil : i < (us8).length := by rw [← (hF8).1]; exact (List.getElem?_eq_some_iff.mp hp5).1
              have hti := List.getElem?_eq_getElem hil
              fail "rd"
              refine prCoef (form_same ((hF8).2 i p5 _ hp5 hti) s5) fun p6 g7 => ?_
              exact kq _ _ (Same.refl _) ⟨p6, _, rfl, hti, g7⟩
            obtain ⟨bs9, rfl, hT9, hm9⟩ := tups_of (by rw [hl5, List.length_map, (hF8).1]) hy5
            have s49 := s8.trans s9
            have e9 := dp_lst (SqL.of hd9) hT9
            rw [hm9, hu8] at e9
            fail "rd"
            refine ⟨.list ((bsD2.map (·.2)).map d3), .list ((bsD2.map (·.2)).map d3), e9, dp_lst (SqL.of (s49 _ _ hd4)) (tups_same hT4 s49), shaped_list _, shaped_list _, ?_⟩
            rw [eqv_list, decide_eq_true rfl]
            fail "rd"
            generalize (some (V.ref D14) : Option V) = oX
            exact cont oX _ (s3.trans (s4.trans s49))
          · fail "rd"
            exact cont (some (.ref D4)) _ (Same.refl _)
        · intro o4n HY sY
          have hjY := jar_same hjG4 sY
          have xY : SameX j H HY := sx_same xG4 sY
          clear hjG4 xG4 sY
          refine ⟨by show 2 ≤ sizeLine; decide, fun PZ hPZ => ?_⟩
          have nPZ : PZ ≠ j := fun e => by
            obtain ⟨a, b, c, g, _⟩ := hjY
            rw [← e, hPZ] at g
            cases g
          fail "rd"
          refine ⟨jar_same hjY (same_new hPZ), nPZ, upd_same, fun Z2 v2 z2 hjZ2 hv2 => ?_⟩
          have xZ2 : SameX j H Z2 := sx_trans (sx_same xY (same_new hPZ)) z2
          clear hjY xY z2 nPZ hPZ
          fail "rd"
          refine ⟨hjZ2, by decide, by decide, fun Z3 r3 z3 hjZ3 r30 r31 => ?_⟩
          have xZ3 : SameX j H Z3 := sx_trans xZ2 z3
          have mv2 : Sm v2 := by rcases hv2 with rfl | rfl <;> exact ⟨by decide, by decide⟩
          have hn3 : v2 * (1 + r3) ≠ 0 ∧ (v2 * (1 + r3)).natAbs ≤ 60 := by
            rcases hv2 with rfl | rfl
            · rw [Int.one_mul]; omega
            · rw [show -1 * (1 + r3) = -(1 + r3) by omega]; omega
          clear hjZ2 xZ2 z3 hv2
          fail "rd"
          refine ⟨.inl mv2, ?_⟩
          fail "rd"
          dsimp only
          generalize v2 * (1 + r3) = n3 at *
          obtain ⟨n30, n31⟩ := hn3
          refine ⟨ldM, hD2, n30, n31, by omega, by omega, L.b3 D2 n3 e0 e1 hD2 n30 n31, fun Z4 qT fsT usT s4 hqT hFT hsT hlT hmT => ?_⟩
          fail "rd"
          refine ⟨⟨_, hqT⟩, fun DU hDU => ?_⟩
          have hzip : (fsT.zip usT).map (fun b : Addr × T3 => V.ref b.1) = fsT.map V.ref := by
            have e1 : (fsT.zip usT).map (·.1) = fsT := List.map_fst_zip (by rw [hFT.1]; exact Nat.le_refl _)
            have e2 : (fsT.zip usT).map (fun b : Addr × T3 => V.ref b.1) = ((fsT.zip usT).map (·.1)).map V.ref := by rw [List.map_map]; rfl
            rw [e2, e1]
          have hzF : ∀ z ∈ fsT.zip usT, FormAt K C Z4 z.1 z.2 ∧ z.2 ∈ usT := fun z hz => by
            obtain ⟨m, hm⟩ := List.mem_iff_getElem?.mp hz
            obtain ⟨g1, g2⟩ := List.getElem?_zip_eq_some.mp hm
            exact ⟨hFT.2 m z.1 z.2 g1 g2, List.mem_of_getElem? g2⟩
          have hzl : (fsT.zip usT).length ≤ 200 := by rw [List.length_zip, hFT.1]; omega
          refine lc_filtT (fun b : Addr × T3 => V.ref b.1) (fsT.zip usT) (fun _ => false) hDU (by rw [hzip]; exact hqT) (by omega) (fun z hz H5 Qt Qn s5 kt kn => ?_) (fun Z5 s5 hd5 => ?_)
          · obtain ⟨hz1, hz2⟩ := hzF z hz
            obtain ⟨t, ht1, ht2⟩ := (hmT z.2).mp hz2
            obtain ⟨hb5, hb6⟩ := L.b5 D2 n3 e0 e1 hD2 n30 n31 t ht1
            rw [ht2] at hb5 hb6
            fail "rd"
            refine ⟨e0, e1, hD2, L.b2 D2 e0 e1 hD2, fun H6 qC fsC tsC s6 hqC hFC hlC hmC => ?_⟩
            fail "rd"
            refine ⟨z.1, qC, fsC, z.2, tsC, rfl, rfl, form_same (form_same hz1 s5) s6, hqC, hFC, ?_⟩
            rw [decide_eq_true (hmC z.2 hb5 hb6)]
            fail "rd"
            exact kn rfl _ s6
          rw [show ((fsT.zip usT).filter fun _ => false) = [] from List.filter_eq_nil_iff.mpr (fun _ _ h => by cases h)] at hd5
          fail "rd"
          refine ⟨Nat.zero_le _, fun PF hPF => ?_⟩
          refine ⟨.list (([] : List T3).map d3), .list (([] : List T3).map d3), .lst (SqL.of ((same_new hPF) _ _ hd5)) .nil, .lst (SqL.of upd_same) .nil, shaped_list _, shaped_list _, ?_⟩
          rw [eqv_list, decide_eq_true rfl]
          have sZ : Same Z3 (upd Z5 PF (.lst [])) := s4.trans (s5.trans (same_new hPF))
          have hqF := same_tup (same_new (o := .lst []) hPF) (same_tup s5 hqT)
          clear hzF hd5 hPF
          generalize upd Z5 PF (.lst []) = Z6 at *
          fail "rd"
          refine fun Z7 s7 => ?_
          fail "rd"
          refine iteE (fun h1 => ?_) (fun h1 => ?_)
          · fail "rd"
            refine ⟨Nat.zero_le _, fun PU hPU => ?_⟩
            refine ⟨qT, PU, _, rfl, rfl, same_tup (same_new hPU) (same_tup s7 hqF), SqT.of upd_same, ?_⟩
            fail "rd"
            refine ⟨n30, n31, fun Z8 s8 => ?_⟩
            fail "rd"
            have hv : (!(fsT.map V.ref).isEmpty) = sqM D2 n3 := by
              have hc := L.c1 D2 n3 (by omega) n30 (.inl (by omega)) n31 (by omega) usT hmT
              have hl := hFT.1
              cases fsT with
              | nil =>
                cases usT with
                | nil => simp at hc ⊢; simp [hc]
                | cons u us => cases hl
              | cons g gs =>
                cases usT with
                | nil => cases hl
                | cons u us => simp at hc ⊢; simp [hc]
            refine iteFI (by rw [hv]; simp) ?_
            have sW := sZ.trans (s7.trans ((same_new hPU).trans s8))
            exact ⟨_, _, _, _, _, rfl, sx_same xZ3 sW, jar_same hjZ3 sW⟩
          · have sW := sZ.trans s7
            exact ⟨_, _, _, _, _, rfl, sx_same xZ3 sW, jar_same hjZ3 sW⟩
    · obtain ⟨o1, o2, o3, o4, o5, rfl, hx, hj'⟩ := hI
      fail "rd"
      refine ⟨by show 3 ≤ sizeLine; decide, fun T1 t1 => ?_⟩
      fail "rd"
      refine ⟨T1, (2, 2, 3), rfl, upd_same, ⟨by decide, by decide, by decide, by decide, by decide⟩, fun H4 a1 s4 n4 hF1 => ?_⟩
      fail "rd"
      refine ⟨ldM, by decide +kernel, by decide, by decide, by decide, by decide, L.c2.1, fun H5 q5 fs5 us5 s5 hq5 hF5 hs5 hl5 hm5 => ?_⟩
      refine ⟨a1, q5, fs5, (2, 2, 3), us5, rfl, rfl, form_same hF1 s5, hq5, hF5, ?_⟩
      rw [decide_eq_true ((hm5 _).mpr L.c2.2)]
      exact k H5 (sx_same hx ((same_new t1).trans (s4.trans s5)))
end
end G41
set_option Elab.async false
set_option linter.all false
set_option maxRecDepth 100000
set_option maxHeartbeats 4000000
namespace G41
open PySem PySem.Spec PyProof.Rows L2
abbrev s_law : Stmt := top 88
abbrev nm_law : List Str := ["_law_cells", "_law_turn"]
abbrev ps_law : List Str := ["_law_cells"]
theorem sc_law : FnScope nm_law ps_law (defScope s_law) := ⟨rfl, rfl, rfl, by decide +kernel, rfl, by decide +kernel, by decide +kernel⟩
local macro_rules | `(tactic| fail "rd1") => `(tactic| first
  | refine ⟨_, rfl, ?_⟩
  | refine ⟨_, _, rfl, rfl, ?_⟩
  | refine ⟨rfl, ?_⟩
  | refine ⟨_, _, rfl, ?_⟩
  | refine ⟨_, _, _, rfl, ?_⟩
  | fail)
local macro_rules | `(tactic| fail "rd") => `(tactic| repeat (fail "rd1"))
local macro_rules | `(tactic| fail "nn") => `(tactic| first
  | with_reducible assumption
  | (apply lkn; fail "ne"; fail "nn")
  | (apply none_same; with_reducible assumption; fail "sm"))
local macro_rules | `(tactic| fail "ne") => `(tactic| first
  | with_reducible assumption
  | exact (old_ne (by with_reducible assumption) (by with_reducible assumption)).1
  | exact (old_ne (by with_reducible assumption) (by with_reducible assumption)).2
  | (apply ne_new1; with_reducible assumption; fail "lk")
  | (apply ne_new2; with_reducible assumption; fail "lk"))
local macro_rules | `(tactic| fail "lk") => `(tactic| first
  | with_reducible assumption
  | exact upd_same
  | (apply lkn; fail "ne"; fail "lk")
  | (apply same_upd; with_reducible assumption; fail "lk"))
local macro_rules | `(tactic| fail "sm") => `(tactic| first
  | with_reducible assumption
  | exact Same.refl _
  | (apply same_mut; fail "sm"; fail "nn")
  | (apply trans_same; with_reducible assumption; fail "sm"))
local macro_rules | `(tactic| fail "sl") => `(tactic| first
  | with_reducible assumption
  | (apply lst_same; with_reducible assumption; fail "sm")
  | (apply SqL.of; fail "lk")
  | (apply lst_new; fail "nn"; fail "sl")
  | (apply lst_updn; fail "ne"; fail "sl")
  | (apply lst_trans; with_reducible assumption; fail "sl"))
local macro_rules | `(tactic| fail "st") => `(tactic| first
  | with_reducible assumption
  | (apply tup_same; with_reducible assumption; fail "sm")
  | (apply SqT.of; fail "lk")
  | (apply tup_new; fail "nn"; fail "st")
  | (apply tup_upd; fail "lk"; fail "st")
  | (apply tup_trans; with_reducible assumption; fail "st")
  | (apply tup_updI; fail "lk"; fail "st"))
local macro_rules | `(tactic| fail "nw") => `(tactic| (repeat (refine nwI (fun _ _ => ?_))); refine fun _ => ?_)
local macro_rules | `(tactic| fail "ln") => `(tactic| first
  | exact lenLt (Nat.le_of_ble_eq_true rfl)
  | exact Nat.le_of_ble_eq_true rfl)
local macro_rules | `(tactic| fail "un") => `(tactic| first
  | apply un_lcR
  | (refine un_lc2 2 ?_)
  | (apply un_lcL; fail "sl")
  | (apply un_lcT; fail "st")
  | (apply un_lcZ; fail "sl")
  | (apply un_lcZT; fail "st")
  | (apply un_lcZM; fail "sl"))
local macro_rules | `(tactic| fail "uf") => `(tactic| first
  | apply un_forR
  | (apply un_forL; fail "sl")
  | (apply un_forT; fail "st")
  | (apply un_forZ; fail "sl")
  | (apply un_forZT; fail "st")
  | (apply un_forZM; fail "sl")
  | (apply un_forE; fail "st"))
local macro_rules | `(tactic| fail "ns") => `(tactic| try simp only [wipe, L2.start, List.set_cons_zero, List.set_cons_succ, List.map_cons, List.map_nil, List.length_cons, List.length_nil, List.replicate_succ, List.replicate_zero, List.cons_append, List.nil_append, Nat.reduceAdd, Nat.reduceSub])
local macro_rules | `(tactic| fail "da") => `(tactic| first
  | exact DpAll.nil
  | (apply DpAll.cons; (first | exact Dp.int _ | (apply Dp.tup; fail "st"; fail "da") | (apply Dp.lst; fail "sl"; fail "da") | exact Dp.bl _ | exact Dp.str _); fail "da"))
local macro_rules | `(tactic| fail "dp") => `(tactic| first
  | exact Dp.int _
  | (apply Dp.tup; fail "st"; fail "da")
  | (apply Dp.lst; fail "sl"; fail "da"))
local macro_rules | `(tactic| fail "so") => `(tactic| first
  | (apply sx_upd; fail "so")
  | (apply sx_mut; fail "so"; fail "nn")
  | (apply sx_of; fail "sm"))
local macro_rules | `(tactic| fail "lg") => `(tactic| (refine PyProof.Rows.int_text_len_1921 (lg_small ?_); omega))
local macro_rules | `(tactic| fail "sx1") => `(tactic| (conv => whnf); first
  | (refine fun _ => ?_; fail "nw"; first | fail "un" | skip)
  | (refine fun _ => ?_)
  | (refine wipe_1 (by decide) ?_; fail "ns")
  | (refine wipe_2 (by decide) (by decide) ?_; fail "ns")
  | (refine ⟨_, rfl, ?_⟩)
  | (refine ⟨rfl, ?_⟩)
  | (refine ⟨_, _, rfl, rfl, ?_⟩)
  | (refine ⟨_, _, rfl, ?_⟩)
  | (refine ⟨_, _, _, rfl, ?_⟩)
  | apply un_forR
  | (apply un_forL; fail "sl")
  | (apply un_forT; fail "st")
  | (apply un_forZ; fail "sl")
  | (apply un_forZT; fail "st")
  | (apply un_forZM; fail "sl")
  | (apply un_forE; fail "st")
  | apply un_inR
  | (apply tyI; fail "sl")
  | (apply dpI; fail "dp"; fail "dp"; rfl; rfl)
  | (apply gtI; fail "st"; rfl)
  | apply isi_ii
  | apply isi_ib
  | (apply isi_tt; fail "st")
  | refine divN1 ?_
  | (apply nx_range; exact Nat.le_of_ble_eq_true rfl)
  | (apply nx_list; fail "sl"; rfl)
  | (apply nx_tup; fail "st"; rfl)
  | (apply nx_zip; fail "sl"; fail "sl"; rfl; rfl)
  | (apply nx_zipT; fail "st"; fail "st"; rfl; rfl)
  | (apply nx_zipM; fail "sl"; fail "st"; rfl; rfl)
  | (apply nx_enumT; fail "st"; rfl)
  | (apply st_range; fail "ln")
  | (apply st_list; fail "sl"; fail "ln")
  | (apply st_tup; fail "st"; fail "ln")
  | (apply st_zip; fail "sl"; fail "sl"; fail "ln")
  | (apply st_zipT; fail "st"; fail "st"; fail "ln")
  | (apply st_zipM; fail "sl"; fail "st"; rfl; rfl)
  | (apply st_enumT; fail "st"; rfl)
  | (apply mulR; with_reducible assumption)
  | (apply mulL; with_reducible assumption)
  | (apply accI; fail "lk"; fail "ln")
  | (apply apdI; fail "lk"; fail "ln")
  | (apply ixLI; fail "sl"; rfl)
  | (apply ixTI; fail "st"; rfl)
  | (apply setI; fail "lk"; rfl)
  | (apply slLI; fail "sl")
  | (apply sum2I; fail "sl")
  | (apply rep2I; fail "lk"; exact Nat.le_of_ble_eq_true rfl)
  | (refine And.intro (lg_small ?_) ?_; omega)
  | (apply joinI3; fail "sl"; fail "lg"; fail "lg"; fail "lg"; decide)
  | (apply enI; fail "st")
  | (apply enL; fail "sl")
  | (apply ppL; fail "sl")
  | (apply ppT; fail "st")
  | (apply pqL; fail "sl")
  | (apply pqT; fail "st")
  | (apply pzL; fail "sl"; fail "sl")
  | (apply pzT; fail "st"; fail "st")
  | (apply pzM; fail "sl"; fail "st")
  | (refine Or.inl ⟨_, rfl, ?_⟩)
  | (refine Or.inr ⟨_, rfl, ?_⟩)
  | (apply pxL; fail "sl")
  | (apply pxT; fail "st")
  | (refine iteTI rfl ?_)
  | (refine iteFI Bool.false_ne_true ?_)
  | (refine iteTI ?_ ?_; (simp [*]; done))
  | (refine iteFI ?_ ?_; (simp [*]; done))
  | (refine And.intro ?_ ?_; first | decide | (simp only [List.length_append, List.length_cons, List.length_nil]; decide)))
local macro_rules | `(tactic| fail "sx") => `(tactic| repeat (fail "sx1"))
local macro_rules | `(tactic| fail "tx1") => `(tactic| (conv => whnf); first
  | (refine fun _ => ?_; fail "nw")
  | (refine fun _ => ?_)
  | (refine wipe_1 (by decide) ?_; fail "ns")
  | (refine wipe_2 (by decide) (by decide) ?_; fail "ns")
  | (refine ⟨_, rfl, ?_⟩)
  | (refine ⟨rfl, ?_⟩)
  | (refine ⟨_, _, rfl, rfl, ?_⟩)
  | (refine ⟨_, _, rfl, ?_⟩)
  | (refine ⟨_, _, _, rfl, ?_⟩)
  | apply un_forR
  | (apply un_forL; fail "sl")
  | (apply un_forT; fail "st")
  | (apply un_forZ; fail "sl")
  | (apply un_forZT; fail "st")
  | (apply un_forZM; fail "sl")
  | (apply un_forE; fail "st")
  | apply un_inR
  | (apply tyI; fail "sl")
  | (apply dpI; fail "dp"; fail "dp"; rfl; rfl)
  | (apply gtI; fail "st"; rfl)
  | apply isi_ii
  | apply isi_ib
  | (apply isi_tt; fail "st")
  | refine divN1 ?_
  | (apply nx_range; exact Nat.le_of_ble_eq_true rfl)
  | (apply nx_list; fail "sl"; rfl)
  | (apply nx_tup; fail "st"; rfl)
  | (apply nx_zip; fail "sl"; fail "sl"; rfl; rfl)
  | (apply nx_zipT; fail "st"; fail "st"; rfl; rfl)
  | (apply nx_zipM; fail "sl"; fail "st"; rfl; rfl)
  | (apply nx_enumT; fail "st"; rfl)
  | (apply st_range; fail "ln")
  | (apply st_list; fail "sl"; fail "ln")
  | (apply st_tup; fail "st"; fail "ln")
  | (apply st_zip; fail "sl"; fail "sl"; fail "ln")
  | (apply st_zipT; fail "st"; fail "st"; fail "ln")
  | (apply st_zipM; fail "sl"; fail "st"; rfl; rfl)
  | (apply st_enumT; fail "st"; rfl)
  | (apply mulR; with_reducible assumption)
  | (apply mulL; with_reducible assumption)
  | (apply accI; fail "lk"; fail "ln")
  | (apply apdI; fail "lk"; fail "ln")
  | (apply ixLI; fail "sl"; rfl)
  | (apply ixTI; fail "st"; rfl)
  | (apply setI; fail "lk"; rfl)
  | (apply slLI; fail "sl")
  | (apply sum2I; fail "sl")
  | (apply rep2I; fail "lk"; exact Nat.le_of_ble_eq_true rfl)
  | (refine And.intro (lg_small ?_) ?_; omega)
  | (apply joinI3; fail "sl"; fail "lg"; fail "lg"; fail "lg"; decide)
  | (apply enI; fail "st")
  | (apply enL; fail "sl")
  | (apply ppL; fail "sl")
  | (apply ppT; fail "st")
  | (apply pqL; fail "sl")
  | (apply pqT; fail "st")
  | (apply pzL; fail "sl"; fail "sl")
  | (apply pzT; fail "st"; fail "st")
  | (apply pzM; fail "sl"; fail "st")
  | (refine Or.inl ⟨_, rfl, ?_⟩)
  | (refine Or.inr ⟨_, rfl, ?_⟩)
  | (apply pxL; fail "sl")
  | (apply pxT; fail "st")
  | (refine iteTI rfl ?_)
  | (refine iteFI Bool.false_ne_true ?_)
  | (refine iteTI ?_ ?_; (simp [*]; done))
  | (refine iteFI ?_ ?_; (simp [*]; done))
  | (refine And.intro ?_ ?_; first | decide | (simp only [List.length_append, List.length_cons, List.length_nil]; decide)))
local macro_rules | `(tactic| fail "tx") => `(tactic| repeat (fail "tx1"))
local macro_rules | `(tactic| fail "om") => `(tactic| first
  | omega
  | (dsimp only; omega)
  | (split <;> omega)
  | (dsimp only; split <;> omega))
local macro_rules | `(tactic| fail "bx1") => `(tactic| first
  | (refine iteD (fun _ => ?_) (fun _ => ?_))
  | (refine iteN (fun _ => ?_) (fun _ => ?_))
  | (refine iteE (fun _ => ?_) (fun _ => ?_))
  | (refine iteTI rfl ?_)
  | (refine iteFI Bool.false_ne_true ?_)
  | (refine ⟨_, rfl, ?_⟩)
  | (refine ⟨_, _, rfl, rfl, ?_⟩)
  | (refine ⟨rfl, ?_⟩)
  | (refine ⟨_, _, rfl, ?_⟩)
  | (apply mulR; with_reducible assumption)
  | (apply mulL; with_reducible assumption)
  | (apply mulL; refine ⟨?_, ?_⟩ <;> fail "om")
  | (apply powI; fail "om"))
local macro_rules | `(tactic| fail "bx") => `(tactic| repeat' (fail "bx1"))

section
variable {P : Program} {w : World} {K : PySem.W.Frag} {mg : Str → Option Value} {base : Heap} {f : Addr} {fd : FuncData} {C : Addr}
def spLaw (K : PySem.W.Frag) : Sp := fun vs H Q _ => ∃ (a : Addr) (ns : List Int), vs = [.ref a] ∧ SqL K H a (ns.map V.int) ∧ ns.length ≤ 63 ∧ ∀ H', Q (.bl true) H'
theorem ok_law (T : Tx K mg) (C_law_jar : Cal P w K mg base 1 "_law_jar" ps_law_jar (spJar K)) (C_law_right : Cal P w K mg base 13 "_law_right" ps_law_right spRight) (F : FnP K "law" s_law f fd) : FnOk P w K mg base CX0 14 f fd ps_law (spLaw K) := by
  refine F.ok sc_law (fun vs H Q E h => ?_) (fun cdv A outer s H vs Q E hr h => ?_)
  · obtain ⟨a, ns, rfl, _⟩ := h
    rfl
  · obtain ⟨a, ns, rfl, ha, hl, k⟩ := h
    refine ⟨_, PSs.nox (pss_one (ps_ret (pe_callB (k_all (K := K) rfl rfl) (by rfl) T.b_all (by decide +kernel) (pa_cons (pe_lc (own := [("_law_turn", 1)]) rfl sc_law.nd (pi_range1 (by rfl) T.b_range (pa_cons (pe_callB (call_max2 rfl) (by rfl) T.b_max (by decide +kernel) (pa_cons pe_int (pa_cons (pe_callB (call_min2 rfl) (by rfl) T.b_min (by decide +kernel) (pa_cons (pe_callB (k_len (K := K) rfl) (by rfl) T.b_len (by decide +kernel) (pa_cons (pv 0) pa_nil)) (pa_cons pe_int pa_nil))) pa_nil))) pa_nil)) (blkOk_by (own := [("_law_turn", 1)]) (by kernel_rfl)) (fun _ _ _ _ _ => (pg_name (i := 1) sc_law.nd rfl (by first | exact Or.inl rfl | exact Or.inr rfl))) (fun _ _ _ _ _ => pts_nil) (fun _ _ _ _ _ => (pe_cal C_law_right hr (pa_cons (pe_cal C_law_jar hr (pa_cons (pv 0) (pa_cons (pv 1) pa_nil))) pa_nil)))) pa_nil)))), ?_⟩
    fail "rd"
    refine ⟨a, _, rfl, .inl ha, ?_⟩
    fail "rd"
    have hm : (0 : Int) ≤ (if (if 4 < (((ns.map V.int).length : Nat) : Int) then 4 else (((ns.map V.int).length : Nat) : Int)) > 2 then (if 4 < (((ns.map V.int).length : Nat) : Int) then 4 else (((ns.map V.int).length : Nat) : Int)) else 2) ∧
        (if (if 4 < (((ns.map V.int).length : Nat) : Int) then 4 else (((ns.map V.int).length : Nat) : Int)) > 2 then (if 4 < (((ns.map V.int).length : Nat) : Int) then 4 else (((ns.map V.int).length : Nat) : Int)) else 2) ≤ 4 := by
      split <;> split <;> omega
    generalize (if (if 4 < (((ns.map V.int).length : Nat) : Int) then 4 else (((ns.map V.int).length : Nat) : Int)) > 2 then (if 4 < (((ns.map V.int).length : Nat) : Int) then 4 else (((ns.map V.int).length : Nat) : Int)) else 2) = m at *
    refine ⟨by omega, by omega, fun D hD => ?_⟩
    refine lc_range (lo := 0) (n := m.toNat) (fun i H' => Same H H' ∧ ∃ bs : List Bool, H' D = some (.lst (bs.map V.bl)) ∧ bs.length ≤ i ∧ bs.all id = true) ⟨same_new hD, [], upd_same, Nat.le_refl _, rfl⟩ (fun i H' hi hI => ?_) (fun H' hI => ?_)
    · obtain ⟨sa, bs, hd, hbl, hall⟩ := hI
      fail "rd"
      refine ⟨ns, lst_same ha sa, by omega, by omega, by omega, fun H2 q s2 q0 hj => ?_⟩
      fail "rd"
      refine ⟨hj, fun H3 x3 => ?_⟩
      have s3 : Same H' H3 := fun b u hb => x3 b u (fun e => by rw [e, q0] at hb; cases hb) (s2 b u hb)
      refine ⟨_, s3 _ _ hd, Nat.lt_of_le_of_lt (show _ ≤ 100 by rw [List.length_map]; omega) (by decide), same_mut (sa.trans s3) hD, bs ++ [true], by rw [upd_same, List.map_append]; rfl, by rw [List.length_append]; show bs.length + 1 ≤ i + 1; omega, by rw [List.all_append, hall]; rfl⟩
    · obtain ⟨sa, bs, hd, hbl, hall⟩ := hI
      fail "rd"
      refine ⟨D, bs, rfl, SqL.of hd, ?_⟩
      rw [hall]
      exact k H'
end
end G41
set_option Elab.async false
set_option linter.all false
set_option maxRecDepth 100000
set_option maxHeartbeats 1000000
namespace G41
/-! the law of numbers: orbits, leads, forms -/
theorem itM_add : ∀ (i j : Nat) (t : T3), itM (i + j) t = itM j (itM i t)
  | 0, j, t => by rw [Nat.zero_add]; rfl
  | i + 1, j, t => by
    rw [show i + 1 + j = (i + j) + 1 by omega]
    exact itM_add i j (stepM t)
theorem itM_succ (j : Nat) (t : T3) : itM (j + 1) t = stepM (itM j t) := by
  rw [itM_add j 1]
  rfl
theorem ring_orb : ∀ {k : Nat} {f t : T3} {rs : List T3}, ringC k f t = some rs → itM rs.length t = f ∧ ∀ y, y ∈ rs ↔ ∃ j, j < rs.length ∧ itM j t = y
  | 0, _, _, _, h => by cases h
  | k + 1, f, t, rs, h => by
    obtain ⟨_, k', e, c⟩ := ringC_split h
    have e' : k = k' := by omega
    subst e'
    rcases c with ⟨rfl, rfl⟩ | ⟨_, r', rfl, h2⟩
    · exact ⟨rfl, fun y => ⟨fun h => (nomatch h), fun ⟨j, h, _⟩ => absurd h (Nat.not_lt_zero j)⟩⟩
    · obtain ⟨g1, g2⟩ := ring_orb h2
      refine ⟨g1, fun y => ?_⟩
      rw [List.mem_cons, g2]
      constructor
      · rintro (rfl | ⟨j, h3, h4⟩)
        · exact ⟨0, Nat.succ_pos _, rfl⟩
        · exact ⟨j + 1, Nat.succ_lt_succ h3, h4⟩
      · rintro ⟨j, h3, h4⟩
        cases j with
        | zero => exact .inl h4.symm
        | succ j => exact .inr ⟨j, Nat.lt_of_succ_lt_succ h3, h4⟩
structure Cyc (t : T3) (L : Nat) : Prop where
  pos : 0 < L
  back : itM L t = t
  mem : ∀ y, y ∈ rgM t ↔ ∃ j, j < L ∧ itM j t = y
theorem cyc_of {t : T3} {rs : List T3} (hd : ¬ dsc t < 0) (h : ringC 50 t (stepM t) = some rs) : rgM t = t :: rs ∧ Cyc t (rs.length + 1) := by
  obtain ⟨g1, g2⟩ := ring_orb h
  have e : rgM t = t :: rs := by unfold rgM; rw [if_neg hd, h]; rfl
  refine ⟨e, Nat.succ_pos _, g1, fun y => ?_⟩
  rw [e, List.mem_cons, g2]
  constructor
  · rintro (rfl | ⟨j, h3, h4⟩)
    · exact ⟨0, Nat.succ_pos _, rfl⟩
    · exact ⟨j + 1, Nat.succ_lt_succ h3, h4⟩
  · rintro ⟨j, h3, h4⟩
    cases j with
    | zero => exact .inl h4.symm
    | succ j => exact .inr ⟨j, Nat.lt_of_succ_lt_succ h3, h4⟩
theorem cyc_mul {t : T3} {L : Nat} (h : itM L t = t) : ∀ q, itM (L * q) t = t
  | 0 => rfl
  | q + 1 => by rw [Nat.mul_succ, itM_add, cyc_mul h q, h]
theorem Cyc.all {t : T3} {L : Nat} (h : Cyc t L) (y : T3) : y ∈ rgM t ↔ ∃ j, itM j t = y := by
  rw [h.mem]
  constructor
  · rintro ⟨j, _, e⟩; exact ⟨j, e⟩
  · rintro ⟨j, e⟩
    refine ⟨j % L, Nat.mod_lt _ h.pos, ?_⟩
    rw [← e]
    have := Nat.div_add_mod j L
    rw [← this, itM_add, cyc_mul h.back, this]
theorem inRF_step {D : Int} {t : T3} (hp : nsqD D) (h : inRF D t) : inRF D (stepM t) ∧ RingOk t := by
  have hR := R_ok (by rw [h.2.1]; exact hp) h.1
  exact ⟨⟨hR.red, (dsc_step t (bnd_of hR.bnd).2.2.1).trans h.2.1, hR.gcd h.2.2⟩, hR⟩
theorem inRF_it {D : Int} (hp : nsqD D) : ∀ (j : Nat) {t : T3}, inRF D t → inRF D (itM j t)
  | 0, _, h => h
  | j + 1, _, h => inRF_it hp j (inRF_step hp h).1
theorem inRF_cyc {D : Int} {t : T3} (hp : nsqD D) (h : inRF D t) : ∃ rs, ringC 50 t (stepM t) = some rs ∧ rgM t = t :: rs ∧ Cyc t (rs.length + 1) := by
  obtain ⟨rs, hrs⟩ := (inRF_step hp h).2.ring
  obtain ⟨e, c⟩ := cyc_of (by rw [h.2.1]; have := hp.1; omega) hrs
  exact ⟨rs, hrs, e, c⟩
theorem rg_mem {D : Int} {t y : T3} (hp : nsqD D) (h : inRF D t) : y ∈ rgM t ↔ ∃ j, itM j t = y := by
  obtain ⟨_, _, _, c⟩ := inRF_cyc hp h
  exact c.all y
theorem rg_clo {D : Int} {x y : T3} (hp : nsqD D) (h : inRF D x) (hy : y ∈ rgM x) : inRF D y ∧ x ∈ rgM y := by
  obtain ⟨rs, _, _, c⟩ := inRF_cyc hp h
  obtain ⟨j, hj, e⟩ := (c.mem y).mp hy
  have hy' : inRF D y := e ▸ inRF_it hp j h
  refine ⟨hy', (rg_mem hp hy').mpr ⟨rs.length + 1 - j, ?_⟩⟩
  rw [← e, ← itM_add, show j + (rs.length + 1 - j) = rs.length + 1 by omega]
  exact c.back
theorem rg_same {D : Int} {x y : T3} (hp : nsqD D) (h : inRF D x) (hy : y ∈ rgM x) (z : T3) : z ∈ rgM x ↔ z ∈ rgM y := by
  obtain ⟨hy', hx⟩ := rg_clo hp h hy
  obtain ⟨i, hi⟩ := (rg_mem hp h).mp hy
  obtain ⟨k, hk⟩ := (rg_mem hp hy').mp hx
  rw [rg_mem hp h, rg_mem hp hy']
  constructor
  · rintro ⟨j, e⟩
    exact ⟨k + j, by rw [itM_add, hk, e]⟩
  · rintro ⟨j, e⟩
    exact ⟨i + j, by rw [itM_add, hi, e]⟩
theorem rdN_of {D : Int} {t : T3} (hp : nsqD D) (h : inRF D t) : RdN t := by
  obtain ⟨h1, hR⟩ := inRF_step hp h
  refine ⟨hR.bnd, by rw [h.2.1]; have := hp.1; omega, hR.cs, ?_⟩
  exact (redM_pos (by rw [h1.2.1]; have := hp.1; omega) h1.1).1
theorem minT_le : ∀ (rs : List T3) (r : T3) (y : T3), y ∈ r :: rs → ltT y (minT r rs) = false
  | [], r, y, h => by
    rw [List.mem_singleton.mp h]
    exact ltT_irrefl r
  | z :: rs, r, y, h => by
    have ih := minT_le rs (if ltT z r = true then z else r)
    show ltT y (minT (if ltT z r = true then z else r) rs) = false
    by_cases c : ltT z r = true
    · rw [if_pos c] at ih ⊢
      rcases List.mem_cons.mp h with rfl | h
      · have h1 := ih z List.mem_cons_self
        cases q : ltT y (minT z rs) with
        | false => rfl
        | true =>
          have := ltT_trans c q
          rw [this] at h1
          cases h1
      · exact ih y h
    · rw [if_neg c] at ih ⊢
      rcases List.mem_cons.mp h with rfl | h
      · exact ih y List.mem_cons_self
      · rcases List.mem_cons.mp h with rfl | h
        · have h1 := ih r List.mem_cons_self
          cases q : ltT y (minT r rs) with
          | false => rfl
          | true =>
            have c' : ltT y r = false := by simpa using c
            rcases hq : ltT r y with _ | _
            · have e := ltT_total hq c'
              subst e
              rw [h1] at q
              cases q
            · have := ltT_trans hq q
              rw [this] at h1
              cases h1
        · exact ih y (List.mem_cons_of_mem _ h)
/-- the law's own list of leads, of any rings that part the list -/
theorem leads_spec : ∀ (k : Nat) (l : List T3), l.length ≤ k → l.Pairwise (fun x y => leT x y = true) → (∀ x ∈ l, ∀ y ∈ l, y ∈ rgM x → ∀ z, z ∈ rgM x ↔ z ∈ rgM y) →
    SrtT (leadsF k l) ∧ ∀ x, x ∈ leadsF k l ↔ (x ∈ l ∧ ∀ y ∈ l, y ∈ rgM x → ltT y x = false)
  | 0, l, h, _, _ => by
    have : l = [] := List.length_eq_zero_iff.mp (by omega)
    subst this
    exact ⟨List.Pairwise.nil, fun x => ⟨fun h => (nomatch h), fun h => (nomatch h.1)⟩⟩
  | k + 1, [], _, _, _ => ⟨List.Pairwise.nil, fun x => ⟨fun h => (nomatch h), fun h => (nomatch h.1)⟩⟩
  | k + 1, t :: r, hk, hs, hR => by
    have selfm : ∀ x : T3, x ∈ rgM x := fun x => List.mem_cons_self
    have hsub : ∀ x, x ∈ (t :: r).filter (fun x => !decide (x ∈ rgM t)) ↔ (x ∈ t :: r ∧ x ∉ rgM t) := fun x => by
      rw [List.mem_filter]; simp
    have hlen : ((t :: r).filter (fun x => !decide (x ∈ rgM t))).length ≤ k := by
      rw [List.filter_cons, if_neg (by simp [selfm t])]
      have := List.length_filter_le (fun x => !decide (x ∈ rgM t)) r
      have : (t :: r).length = r.length + 1 := rfl
      omega
    obtain ⟨i1, i2⟩ := leads_spec k ((t :: r).filter (fun x => !decide (x ∈ rgM t))) hlen (hs.filter _) (fun x hx y hy => hR x ((hsub x).mp hx).1 y ((hsub y).mp hy).1)
    obtain ⟨hs1, hs2⟩ := List.pairwise_cons.mp hs
    have hle : ∀ y ∈ t :: r, ltT y t = false := fun y hy => by
      rcases List.mem_cons.mp hy with rfl | hy
      · exact ltT_irrefl y
      · have := hs1 y hy
        unfold leT at this
        simpa using this
    show SrtT (t :: leadsF k ((t :: r).filter fun x => !decide (x ∈ rgM t))) ∧ ∀ x, x ∈ t :: leadsF k ((t :: r).filter fun x => !decide (x ∈ rgM t)) ↔ _
    refine ⟨List.pairwise_cons.mpr ⟨fun x hx => ?_, i1⟩, fun x => ?_⟩
    · obtain ⟨h1, _⟩ := (i2 x).mp hx
      obtain ⟨h2, h3⟩ := (hsub x).mp h1
      cases q : ltT t x with
      | true => rfl
      | false =>
        have := ltT_total q (hle x h2)
        rw [← this] at h3
        exact absurd (selfm t) h3
    · rw [List.mem_cons]
      constructor
      · rintro (rfl | hx)
        · exact ⟨List.mem_cons_self, fun y hy _ => hle y hy⟩
        · obtain ⟨h1, h2⟩ := (i2 x).mp hx
          obtain ⟨h3, h4⟩ := (hsub x).mp h1
          refine ⟨h3, fun y hy hyx => h2 y ((hsub y).mpr ⟨hy, fun hyt => h4 ?_⟩) hyx⟩
          rw [hR t List.mem_cons_self y hy hyt x, ← hR x h3 y hy hyx x]
          exact selfm x
      · rintro ⟨h1, h2⟩
        by_cases hxt : x ∈ rgM t
        · left
          have h3 := h2 t List.mem_cons_self (by rw [← hR t List.mem_cons_self x h1 hxt t]; exact selfm t)
          exact (ltT_total h3 (hle x h1)).symm
        · refine .inr ((i2 x).mpr ⟨(hsub x).mpr ⟨h1, hxt⟩, fun y hy => h2 y ((hsub y).mp hy).1⟩)
end G41
set_option Elab.async false
set_option linter.all false
set_option maxRecDepth 100000
set_option maxHeartbeats 1000000
namespace G41
/-! forms with a number -/
theorem gcd3_eq (t : T3) : gcd3 t = Nat.gcd (Nat.gcd t.1.natAbs t.2.1.natAbs) t.2.2.natAbs := (gcdV_eq t).symm
theorem fw_of {D n : Int} {b : Nat} {t : T3} (n0 : n ≠ 0) (h : t ∈ fw D n b) : ∃ c, t = (n, (b : Int), c) ∧ dsc t = D ∧ gcd3 t = 1 ∧ (0 < D ∨ 0 < n) := by
  unfold fw at h
  split at h
  · rename_i hc
    obtain ⟨h1, h2, h3⟩ := hc
    rw [List.mem_singleton] at h
    subst h
    refine ⟨_, rfl, ?_, h2, h3⟩
    have := Int.mul_fdiv_add_fmod ((b : Int) * b - D) (4 * n)
    show (b : Int) * b - 4 * n * ((b : Int) * b - D).fdiv (4 * n) = D
    omega
  · cases h
theorem of_fw {D n c : Int} {b : Nat} (n0 : n ≠ 0) (hd : dsc (n, (b : Int), c) = D) (hg : gcd3 (n, (b : Int), c) = 1) (hp : 0 < D ∨ 0 < n) : (n, (b : Int), c) ∈ fw D n b := by
  have e : (b : Int) * b - D = 4 * n * c := by
    have : (b : Int) * b - 4 * n * c = D := hd
    omega
  have e2 : ((b : Int) * b - D).fdiv (4 * n) = c := by
    rw [e]
    exact Int.mul_fdiv_cancel_left _ (by omega)
  have e3 : ((b : Int) * b - D).fmod (4 * n) = 0 := by
    have := Int.mul_fdiv_add_fmod ((b : Int) * b - D) (4 * n)
    rw [e2] at this
    omega
  unfold fw
  rw [e2, if_pos ⟨e3, hg, hp⟩]
  exact List.mem_cons_self
theorem mem_forms {D n : Int} {t : T3} (n0 : n ≠ 0) : t ∈ formsW D n (2 * n.natAbs) ↔ ∃ (b : Nat) (c : Int), b < 2 * n.natAbs ∧ t = (n, (b : Int), c) ∧ dsc t = D ∧ gcd3 t = 1 ∧ (0 < D ∨ 0 < n) := by
  unfold formsW
  rw [List.mem_flatMap]
  constructor
  · rintro ⟨b, hb, ht⟩
    obtain ⟨c, h1, h2, h3, h4⟩ := fw_of n0 ht
    exact ⟨b, c, List.mem_range.mp hb, h1, h2, h3, h4⟩
  · rintro ⟨b, c, hb, rfl, h2, h3, h4⟩
    exact ⟨b, List.mem_range.mpr hb, of_fw n0 h2 h3 h4⟩
theorem nat_dvd_int {g : Nat} {z : Int} (h : g ∣ z.natAbs) : (g : Int) ∣ z := Int.ofNat_dvd_left.mpr h
/-- a number that is in no relation with the discriminant makes the gcd one -/
theorem gcd_one {n b c D : Int} (hd : dsc (n, b, c) = D) (hg : Int.gcd D n = 1) : gcd3 (n, b, c) = 1 := by
  rw [gcd3_eq]
  generalize hG : Nat.gcd (Nat.gcd n.natAbs b.natAbs) c.natAbs = g
  have h1 : g ∣ Nat.gcd n.natAbs b.natAbs := hG ▸ Nat.gcd_dvd_left _ _
  have h2 : (g : Int) ∣ n := nat_dvd_int (Nat.dvd_trans h1 (Nat.gcd_dvd_left _ _))
  have h3 : (g : Int) ∣ b := nat_dvd_int (Nat.dvd_trans h1 (Nat.gcd_dvd_right _ _))
  have h4 : (g : Int) ∣ D := by
    rw [← hd]
    show (g : Int) ∣ b * b - 4 * n * c
    refine Int.dvd_sub (Int.dvd_mul_of_dvd_left h3) (Int.dvd_mul_of_dvd_left (Int.dvd_mul_of_dvd_right h2))
  have h5 : g ∣ Int.gcd D n := Int.dvd_gcd h4 h2
  rw [hg] at h5
  exact Nat.dvd_one.mp h5
theorem c1_ok (D n : Int) (D0 : D ≠ 0) (n0 : n ≠ 0) (hp : 0 < D ∨ 0 < n) (n1 : n.natAbs ≤ 60) (hg : Int.gcd D n = 1) (us : List T3) (hm : ∀ x, x ∈ us ↔ ∃ t ∈ formsW D n (2 * n.natAbs), ldM t = x) : us.isEmpty = !sqM D n := by
  have key : sqM D n = true ↔ ∃ t, t ∈ formsW D n (2 * n.natAbs) := by
    unfold sqM
    rw [List.any_eq_true]
    constructor
    · rintro ⟨x, hx, hs⟩
      have hs := of_decide_eq_true hs
      rw [List.mem_range] at hx
      obtain ⟨q, hq⟩ := Int.dvd_of_emod_eq_zero hs
      -- x modulo twice the number
      have e1 := Nat.div_add_mod x (2 * n.natAbs)
      have lt := Nat.mod_lt x (show 0 < 2 * n.natAbs by omega)
      generalize x / (2 * n.natAbs) = z at e1
      generalize x % (2 * n.natAbs) = b at e1 lt
      have e2 : (x : Int) = 2 * (n.natAbs : Int) * z + b := by
        have : ((2 * n.natAbs * z + b : Nat) : Int) = (x : Int) := by rw [e1]
        push_cast at this
        omega
      have e3 : (b : Int) * b - D = 4 * (n.natAbs : Int) * (q - z * ((n.natAbs : Int) * z + b)) := by
        have : (x : Int) * x - D = 4 * (n.natAbs : Int) * q := hq
        rw [e2] at this
        grind
      obtain ⟨c, hc⟩ : ∃ c, (b : Int) * b - D = 4 * n * c := by
        rcases Int.natAbs_eq n with h | h
        · exact ⟨_, by rw [e3, ← h]⟩
        · exact ⟨-(q - z * ((n.natAbs : Int) * z + b)), by rw [e3]; rw [show 4 * n * -(q - z * ((n.natAbs : Int) * z + b)) = 4 * (-n) * (q - z * ((n.natAbs : Int) * z + b)) by grind]; rw [show -n = (n.natAbs : Int) by omega]⟩
      have hd : dsc (n, (b : Int), c) = D := by
        show (b : Int) * b - 4 * n * c = D
        omega
      exact ⟨_, (mem_forms n0).mpr ⟨b, c, lt, rfl, hd, gcd_one hd hg, hp⟩⟩
    · rintro ⟨t, ht⟩
      obtain ⟨b, c, hb, rfl, hd, _, _⟩ := (mem_forms n0).mp ht
      refine ⟨b, List.mem_range.mpr (by omega), decide_eq_true ?_⟩
      refine Int.emod_eq_zero_of_dvd ?_
      have hd : (b : Int) * b - 4 * n * c = D := hd
      rcases Int.natAbs_eq n with h | h
      · exact ⟨c, by rw [← h]; omega⟩
      · refine ⟨-c, ?_⟩
        have : 4 * (n.natAbs : Int) * -c = 4 * n * c := by
          rw [show (n.natAbs : Int) = -n by omega]
          grind
        omega
  cases us with
  | nil =>
    have : sqM D n = false := by
      cases e : sqM D n with
      | false => rfl
      | true =>
        obtain ⟨t, ht⟩ := key.mp e
        exact nomatch (hm (ldM t)).mpr ⟨t, ht, rfl⟩
    rw [this]
    rfl
  | cons u us =>
    obtain ⟨t, ht, _⟩ := (hm u).mp List.mem_cons_self
    rw [key.mpr ⟨t, ht⟩]
    rfl
theorem ldM_neg {t r : T3} (h : redC 12 t = some r) (hd : dsc r < 0) : ldM t = r := by
  unfold ldM
  rw [h]
  exact if_pos hd
theorem ldM_pos {t r : T3} {rs : List T3} (h : redC 12 t = some r) (hd : ¬ dsc r < 0) (h2 : ringC 50 r (stepM r) = some rs) : ldM t = minT r rs := by
  unfold ldM
  rw [h]
  show (if dsc r < 0 then r else _) = _
  rw [if_neg hd, h2]
/-! above 0 -/
theorem red_pos {D n : Int} {t : T3} (hp : nsqD D) (n0 : n ≠ 0) (n1 : n.natAbs ≤ 60) (ht : t ∈ formsW D n (2 * n.natAbs)) : ∃ r rs, redC 12 t = some r ∧ inRF D r ∧ bndC r = true ∧ ringC 50 r (stepM r) = some rs ∧ rgM r = r :: rs ∧ ldM t = minT r rs := by
  obtain ⟨b, c, hb, rfl, hd, hg, _⟩ := (mem_forms n0).mp ht
  obtain ⟨r, h1, h2, h3, h4, h5⟩ := (P2_ok n0 n1 (by omega) (by omega) (by rw [hd]; exact hp) hg).ex
  have hr : inRF D r := ⟨h4, h2.trans hd, h5⟩
  obtain ⟨rs, h6, h7, _⟩ := inRF_cyc hp hr
  exact ⟨r, rs, h1, hr, h3, h6, h7, ldM_pos h1 (by rw [hr.2.1]; have := hp.1; omega) h6⟩
theorem b3_ok (D n : Int) (D5 : 5 ≤ D) (D4 : D ≤ 400) (hD : isD D = true) (n0 : n ≠ 0) (n1 : n.natAbs ≤ 60) : ∀ t ∈ formsW D n (2 * n.natAbs), LdOk t (ldM t) := by
  intro t ht
  obtain ⟨hp, _⟩ := isD_nsq D5 D4 hD
  obtain ⟨r, rs, h1, h2, h3, h4, h5, h6⟩ := red_pos hp n0 n1 ht
  have hb := (inRF_step hp (inRF_step hp h2).1).2.bnd
  exact ⟨r, rs, h1, h3, .inr ⟨by rw [h2.2.1]; omega, hb, h4⟩, h6⟩
theorem min_lead {D : Int} {r : T3} {rs : List T3} (hp : nsqD D) (hr : inRF D r) (he : rgM r = r :: rs) : minT r rs ∈ rgM r ∧ inRF D (minT r rs) ∧ ∀ y ∈ rgM (minT r rs), ltT y (minT r rs) = false := by
  have hm : minT r rs ∈ rgM r := by rw [he]; exact minT_mem rs r
  refine ⟨hm, (rg_clo hp hr hm).1, fun y hy => minT_le rs r y ?_⟩
  rw [← he]
  exact (rg_same hp hr hm y).mpr hy
theorem b5_ok (D n : Int) (D5 : 5 ≤ D) (D4 : D ≤ 400) (hD : isD D = true) (n0 : n ≠ 0) (n1 : n.natAbs ≤ 60) : ∀ t ∈ formsW D n (2 * n.natAbs), inRF D (ldM t) ∧ ∀ y ∈ rgM (ldM t), ltT y (ldM t) = false := by
  intro t ht
  obtain ⟨hp, _⟩ := isD_nsq D5 D4 hD
  obtain ⟨r, rs, h1, h2, h3, h4, h5, h6⟩ := red_pos hp n0 n1 ht
  rw [h6]
  exact (min_lead hp h2 h5).2
theorem b2_ok (D : Int) (D5 : 5 ≤ D) (D4 : D ≤ 400) (hD : isD D = true) : RgOk D := by
  obtain ⟨hp, _⟩ := isD_nsq D5 D4 hD
  refine ⟨by omega, fun x hx => ⟨(inRF_step hp hx).2.bnd, (inRF_step hp (inRF_step hp hx).1).2.bnd⟩, fun x hx => ?_, fun x y hx hy => rg_clo hp hx hy⟩
  obtain ⟨rs, h, _⟩ := inRF_cyc hp hx
  exact ⟨rs, h⟩
end G41
set_option Elab.async false
set_option linter.all false
set_option maxRecDepth 100000
set_option maxHeartbeats 1000000
namespace G41
/-! the law's own reduced forms -/
theorem mem_arL {D : Int} {x : T3} : x ∈ arL D ↔ ∃ (i j : Nat), i < (arTop D).toNat ∧ j < arN D (1 + (i : Int)) ∧ x ∈ arC D (1 + (i : Int)) (arLo D (1 + (i : Int)) + (j : Int)) := by
  unfold arL arA
  rw [List.mem_flatMap]
  constructor
  · rintro ⟨i, hi, hx⟩
    unfold arB at hx
    rw [List.mem_flatMap] at hx
    obtain ⟨j, hj, hx⟩ := hx
    exact ⟨i, j, List.mem_range.mp hi, List.mem_range.mp hj, hx⟩
  · rintro ⟨i, j, hi, hj, hx⟩
    refine ⟨i, List.mem_range.mpr hi, ?_⟩
    unfold arB
    rw [List.mem_flatMap]
    exact ⟨j, List.mem_range.mpr hj, hx⟩
theorem mem_arC {D a b : Int} {x : T3} (ha : 0 < a) : x ∈ arC D a b ↔ ∃ c, b * b - D = 4 * a * c ∧ (x = (a, b, c) ∨ x = (-a, b, -c)) ∧ arG D a b c x = true := by
  unfold arC
  constructor
  · intro h
    split at h
    · rename_i hm
      obtain ⟨h1, h2⟩ := List.mem_filter.mp h
      obtain ⟨q, hq⟩ := Int.dvd_of_emod_eq_zero hm
      have e : (b * b - D).fdiv (4 * a) = q := by
        rw [hq]
        exact Int.mul_fdiv_cancel_left _ (by omega)
      rw [e] at h1 h2
      refine ⟨q, by rw [hq], ?_, h2⟩
      rcases List.mem_cons.mp h1 with h1 | h1
      · exact .inl h1
      · exact .inr (List.mem_singleton.mp h1)
    · cases h
  · rintro ⟨c, hc, hx, hg⟩
    have e : (b * b - D).fdiv (4 * a) = c := by
      rw [hc]
      exact Int.mul_fdiv_cancel_left _ (by omega)
    rw [if_pos (Int.emod_eq_zero_of_dvd ⟨c, hc⟩), e]
    refine List.mem_filter.mpr ⟨?_, hg⟩
    rcases hx with rfl | rfl
    · exact List.mem_cons_self
    · exact List.mem_cons_of_mem _ List.mem_cons_self
theorem gcd_law (a b c : Int) : Int.gcd ((Int.gcd a b : Nat) : Int) c = gcd3 (a, b, c) := by
  rw [gcd3_eq]
  rfl
theorem gcd3_neg (a b c : Int) : gcd3 (-a, b, -c) = gcd3 (a, b, c) := by
  rw [gcd3_eq, gcd3_eq]
  show Nat.gcd (Nat.gcd (-a).natAbs b.natAbs) (-c).natAbs = _
  rw [Int.natAbs_neg, Int.natAbs_neg]
/-- what stands in the law's list -/
theorem arL_is {D : Int} {x : T3} (h : x ∈ arL D) : dsc x = D ∧ gcd3 x = 1 ∧ redL x = true ∧ (0 < x.1 ∨ 0 < D) := by
  obtain ⟨i, j, _, _, hx⟩ := mem_arL.mp h
  generalize arLo D (1 + (i : Int)) + (j : Int) = b at hx
  obtain ⟨c, hc, hs, hg⟩ := (mem_arC (by omega)).mp hx
  unfold arG at hg
  rw [Bool.and_eq_true_iff, Bool.and_eq_true_iff, Bool.or_eq_true_iff, decide_eq_true_iff, decide_eq_true_iff, decide_eq_true_iff, gcd_law] at hg
  obtain ⟨⟨g1, g2⟩, g3⟩ := hg
  refine ⟨?_, ?_, g3, g1⟩
  · rcases hs with rfl | rfl
    · show b * b - 4 * (1 + (i : Int)) * c = D
      omega
    · rw [dsc_neg]
      show b * b - 4 * (1 + (i : Int)) * c = D
      omega
  · rcases hs with rfl | rfl
    · exact g2
    · rw [gcd3_neg]; exact g2
/-- what must stand there -/
theorem is_arL {D : Int} {x : T3} (hd : dsc x = D) (hg : gcd3 x = 1) (hr : redL x = true) (hp : 0 < x.1 ∨ 0 < D) (h0 : x.1 ≠ 0) (ha : (x.1.natAbs : Int) ≤ arTop D) (hlo : arLo D x.1.natAbs ≤ x.2.1) (hhi : x.2.1 < arLo D x.1.natAbs + arN D x.1.natAbs) : x ∈ arL D := by
  obtain ⟨a, b, c⟩ := x
  refine mem_arL.mpr ⟨a.natAbs - 1, (b - arLo D a.natAbs).toNat, by simp only at ha h0; omega, ?_, ?_⟩
  · have : (1 : Int) + ((a.natAbs - 1 : Nat) : Int) = (a.natAbs : Int) := by simp only at h0; omega
    rw [this]
    simp only at hlo hhi
    omega
  · have e1 : (1 : Int) + ((a.natAbs - 1 : Nat) : Int) = (a.natAbs : Int) := by simp only at h0; omega
    rw [e1]
    have e2 : arLo D (a.natAbs : Int) + (((b - arLo D (a.natAbs : Int)).toNat : Nat) : Int) = b := by simp only at hlo; omega
    rw [e2]
    have hd : b * b - 4 * a * c = D := hd
    refine (mem_arC (by simp only at h0; omega)).mpr ?_
    rcases Int.natAbs_eq a with h | h
    · refine ⟨c, by rw [← h]; omega, .inl (by rw [← h]), ?_⟩
      unfold arG
      rw [← h, gcd_law, Bool.and_eq_true_iff, Bool.and_eq_true_iff, Bool.or_eq_true_iff, decide_eq_true_iff, decide_eq_true_iff, decide_eq_true_iff]
      exact ⟨⟨hp, hg⟩, hr⟩
    · have hn : (a.natAbs : Int) = -a := by omega
      rw [hn]
      refine ⟨-c, ?_, .inr ?_, ?_⟩
      · have : 4 * -a * -c = 4 * a * c := by grind
        omega
      · rw [Int.neg_neg, Int.neg_neg]
      · unfold arG
        rw [gcd_law, gcd3_neg, Bool.and_eq_true_iff, Bool.and_eq_true_iff, Bool.or_eq_true_iff, decide_eq_true_iff, decide_eq_true_iff, decide_eq_true_iff]
        exact ⟨⟨hp, hg⟩, hr⟩
/-! above 0 -/
theorem redL_pos {t : T3} (hd : 0 < dsc t) : redL t = true ↔ (redM t = true ∧ t.2.1 * t.2.1 ≠ dsc t) := by
  unfold redL redM
  simp only [if_neg (show ¬ dsc t < 0 by omega)]
  by_cases h1 : t.2.1 ≤ 0
  · simp [h1]
  · by_cases h2 : dsc t < t.2.1 * t.2.1
    · have h3 : dsc t ≤ t.2.1 * t.2.1 := by omega
      simp [h1, h2, h3]
    · by_cases h3 : dsc t ≤ t.2.1 * t.2.1
      · have e : t.2.1 * t.2.1 = dsc t := by omega
        simp [h3, e]
      · have e : t.2.1 * t.2.1 ≠ dsc t := by omega
        simp [h1, h2, h3, e]
theorem arL_pos {D : Int} (D5 : 5 ≤ D) (D4 : D ≤ 400) (hD : isD D = true) (x : T3) : x ∈ arL D ↔ inRF D x := by
  obtain ⟨hp, _⟩ := isD_nsq D5 D4 hD
  constructor
  · intro h
    obtain ⟨h1, h2, h3, _⟩ := arL_is h
    exact ⟨((redL_pos (by omega)).mp h3).1, h1, h2⟩
  · intro h
    obtain ⟨q1, q2, q3, q4, q5⟩ := inRF_ab hp h
    have hr : redL x = true := (redL_pos (by rw [h.2.1]; omega)).mpr ⟨h.1, by rw [h.2.1]; omega⟩
    have w0 := isq_nn D
    have hab : absI D = D := by unfold absI; rw [if_neg (by omega)]
    have hT : arTop D = isq D + 1 := by unfold arTop; rw [hab]
    have hlo : arLo D x.1.natAbs = 1 := by unfold arLo; rw [if_neg (by omega)]
    have hN : arN D x.1.natAbs = (arTop D).toNat := by unfold arN; rw [if_neg (by omega)]
    have hx0 : x.1 ≠ 0 := by rcases q5 with q | q <;> omega
    refine is_arL h.2.1 h.2.2 hr (.inr (by omega)) hx0 ?_ (by rw [hlo]; omega) (by rw [hlo, hN, hT]; omega)
    rw [hT]
    obtain ⟨_, p2, p3, p4⟩ := redM_pos (by rw [h.2.1]; omega) h.1
    rw [h.2.1] at p3 p4
    have habs : absI x.1 = (x.1.natAbs : Int) := (natAbs_absI x.1).symm
    rw [habs] at p3 p4
    have w1 := isq_ok (v := D) (by omega) (by omega)
    refine Int.not_lt.mp fun hlt => ?_
    -- twice a coefficient less b stays under the root
    have hz : isq D + 1 ≤ 2 * (x.1.natAbs : Int) - x.2.1 := by omega
    have hz2 : (isq D + 1) * (isq D + 1) ≤ (2 * (x.1.natAbs : Int) - x.2.1) * (2 * (x.1.natAbs : Int) - x.2.1) := Int.mul_le_mul hz hz (by omega) (by omega)
    omega
theorem b1_ok (D : Int) (D5 : 5 ≤ D) (D4 : D ≤ 400) (hD : isD D = true) : ∀ t ∈ arL D, GoodR t := by
  intro t ht
  obtain ⟨hp, _⟩ := isD_nsq D5 D4 hD
  have h := (arL_pos D5 D4 hD t).mp ht
  obtain ⟨rs, h1, h2, h3⟩ := inRF_cyc hp h
  refine ⟨(bnd_of (inRF_step hp h).2.bnd).2.1, .inr ⟨by rw [h.2.1]; omega, ⟨rs, h1⟩, fun s hs => rdN_of hp (rg_clo hp h hs).1⟩⟩
/-- the window tells the second coefficient -/
theorem win_is {w m b : Int} (hm : 0 < m) (h1 : b ≤ w) (h2 : w < b + 2 * m) (q : Int) : winB w m (b - 2 * m * q) = b := by
  unfold winB
  have e : w - (b - 2 * m * q) = (w - b) + (2 * m) * q := by omega
  rw [e, Int.add_mul_emod_self_left, Int.emod_eq_of_lt (by omega) (by omega)]
  omega
theorem b4_ok (D n : Int) (D5 : 5 ≤ D) (D4 : D ≤ 400) (hD : isD D = true) (n0 : n ≠ 0) (n1 : n.natAbs ≤ 60) (h4 : 4 * n * n < D) (ts us : List T3) (hs : ts.Pairwise (fun x y => leT x y = true)) (hm : ∀ x, x ∈ ts ↔ x ∈ arL D) (hu : SrtT us)
    (hum : ∀ x, x ∈ us ↔ ∃ t ∈ formsW D n (2 * n.natAbs), ldM t = x) : us = (leadsF ts.length ts).filter fun x => !((rgM x).filter fun y => decide (y.1 = n)).isEmpty := by
  obtain ⟨hp, _⟩ := isD_nsq D5 D4 hD
  have hmR : ∀ x, x ∈ ts ↔ inRF D x := fun x => (hm x).trans (arL_pos D5 D4 hD x)
  obtain ⟨i1, i2⟩ := leads_spec ts.length ts (Nat.le_refl _) hs fun x hx y _ hxy z => rg_same hp ((hmR x).mp hx) hxy z
  have hlead : ∀ x, x ∈ leadsF ts.length ts ↔ (inRF D x ∧ ∀ y ∈ rgM x, ltT y x = false) := fun x => by
    rw [i2, hmR]
    constructor
    · rintro ⟨h1, h2⟩
      exact ⟨h1, fun y hy => h2 y ((hmR y).mpr (rg_clo hp h1 hy).1) hy⟩
    · rintro ⟨h1, h2⟩
      exact ⟨h1, fun y _ hy => h2 y hy⟩
  have hfil : ∀ x : T3, (!((rgM x).filter fun y => decide (y.1 = n)).isEmpty) = true ↔ ∃ y ∈ rgM x, y.1 = n := fun x => by
    constructor
    · intro h
      cases e : (rgM x).filter fun y => decide (y.1 = n) with
      | nil => rw [e] at h; cases h
      | cons z zs =>
        have hz : z ∈ (rgM x).filter fun y => decide (y.1 = n) := by rw [e]; exact List.mem_cons_self
        obtain ⟨h1, h2⟩ := List.mem_filter.mp hz
        exact ⟨z, h1, of_decide_eq_true h2⟩
    · rintro ⟨y, h1, h2⟩
      cases e : (rgM x).filter fun y => decide (y.1 = n) with
      | nil =>
        have : y ∈ (rgM x).filter fun y => decide (y.1 = n) := List.mem_filter.mpr ⟨h1, decide_eq_true h2⟩
        rw [e] at this
        cases this
      | cons z zs => rfl
  have h4' : 4 * (n * n) < D := by rw [← Int.mul_assoc]; exact h4
  refine srt_ext hu (i1.filter _) fun x => ?_
  rw [List.mem_filter, hfil, hlead, hum]
  constructor
  · rintro ⟨t, ht, rfl⟩
    obtain ⟨r, rs, h1, h2, h3, h5, h6, h7⟩ := red_pos hp n0 n1 ht
    obtain ⟨m1, m2, m3⟩ := min_lead hp h2 h6
    rw [h7]
    refine ⟨⟨m2, m3⟩, ?_⟩
    obtain ⟨b, c, hb, rfl, hd, hg, _⟩ := (mem_forms n0).mp ht
    obtain ⟨r', c', g1, g2, g3, g4, g5, g6, j, g7⟩ := (W_ok (n := n) (b := (b : Int)) (c := c) n0 n1 (by omega) (by omega) (by rw [hd]; exact hp) (by rw [hd]; exact h4')).ex
    rw [h1] at g1
    cases g1
    exact ⟨itM j r, (rg_same hp h2 m1 _).mp ((rg_mem hp h2).mpr ⟨j, rfl⟩), by rw [g7]⟩
  · rintro ⟨⟨h1, h2⟩, y, hy, hyn⟩
    obtain ⟨hyR, hxy⟩ := rg_clo hp h1 hy
    obtain ⟨a, b'', c''⟩ := y
    simp only at hyn
    subst hyn
    have hdy : b'' * b'' - 4 * a * c'' = D := hyR.2.1
    obtain ⟨p1, p2, p3, p4⟩ := redM_pos (by rw [hyR.2.1]; omega) hyR.1
    rw [hyR.2.1] at p2 p3
    replace p1 : 0 < b'' := p1
    replace p2 : b'' * b'' ≤ D := p2
    have hmp : 0 < (a.natAbs : Int) := by omega
    -- the representative
    have e1 := Int.emod_add_mul_ediv b'' (2 * (a.natAbs : Int))
    have e2 := Int.emod_nonneg b'' (show 2 * (a.natAbs : Int) ≠ 0 by omega)
    have e3 := Int.emod_lt_of_pos b'' (show 0 < 2 * (a.natAbs : Int) by omega)
    generalize b'' / (2 * (a.natAbs : Int)) = q at e1
    generalize hbb : b'' % (2 * (a.natAbs : Int)) = b at e1 e2 e3
    have eb : b = b'' - 2 * (a.natAbs : Int) * q := by omega
    obtain ⟨c, hc⟩ : ∃ c, b * b - D = 4 * a * c := by
      rcases Int.natAbs_eq a with h | h
      · refine ⟨c'' - b'' * q + a * q * q, ?_⟩
        rw [eb, ← h]
        grind
      · have hn : (a.natAbs : Int) = -a := by omega
        refine ⟨c'' + b'' * q + a * q * q, ?_⟩
        rw [eb, hn]
        grind
    have hdt : dsc (a, b, c) = D := by
      show b * b - 4 * a * c = D
      omega
    obtain ⟨r, c', g1, g2, g3, g4, g5, g6, j, g7⟩ := (W_ok (n := a) (b := b) (c := c) n0 n1 e2 (by omega) (by rw [hdt]; exact hp) (by rw [hdt]; exact h4')).ex
    rw [hdt] at g3 g4 g5 g6 g7
    have hw0 := isq_nn D
    have hw := isq_ok (v := D) (by omega) (by omega)
    have hwin : winB (isq D) a.natAbs b = b'' := by
      rw [eb]
      refine win_is hmp ?_ ?_ q
      · refine Int.not_lt.mp fun h => ?_
        have : (isq D + 1) * (isq D + 1) ≤ b'' * b'' := Int.mul_le_mul (by omega) (by omega) (by omega) (by omega)
        omega
      · have habs : absI a = (a.natAbs : Int) := (natAbs_absI a).symm
        replace p3 : D < (2 * absI a + b'') * (2 * absI a + b'') := p3
        rw [habs] at p3
        refine Int.not_le.mp fun h => ?_
        have : (2 * (a.natAbs : Int) + b'') * (2 * (a.natAbs : Int) + b'') ≤ isq D * isq D := Int.mul_le_mul (by omega) (by omega) (by omega) (by omega)
        omega
    simp only [hwin] at g4 g5 g6 g7
    have hcc : c' = c'' := by
      have g5 : b'' * b'' - 4 * a * c' = D := g5
      refine Int.eq_of_mul_eq_mul_left (show 4 * a ≠ 0 by omega) ?_
      omega
    subst hcc
    have hgt : gcd3 (a, b, c) = 1 := by rw [g6]; exact hyR.2.2
    have hmem : (a, b, c) ∈ formsW D a (2 * a.natAbs) := by
      refine (mem_forms n0).mpr ⟨b.toNat, c, by omega, ?_, hdt, hgt, .inl (by omega)⟩
      rw [Int.toNat_of_nonneg e2]
    obtain ⟨r', rs, k1, k2, k3, k4, k5, k6⟩ := red_pos hp n0 n1 hmem
    rw [g1] at k1
    cases k1
    refine ⟨_, hmem, ?_⟩
    rw [k6]
    obtain ⟨m1, m2, m3⟩ := min_lead hp k2 k5
    -- y stands in the ring of r
    have hyr : (a, b'', c') ∈ rgM r := (rg_mem hp k2).mpr ⟨j, g7⟩
    have hxr : x ∈ rgM r := (rg_same hp k2 hyr x).mpr hxy
    have h5 := minT_le rs r x (by rw [← k5]; exact hxr)
    have hmx : minT r rs ∈ rgM x := (rg_same hp k2 hxr _).mp m1
    exact ltT_total (h2 _ hmx) h5
end G41
set_option Elab.async false
set_option linter.all false
set_option maxRecDepth 100000
set_option maxHeartbeats 1000000
namespace G41
/-! below 0 -/
theorem redL_neg {t : T3} (hd : dsc t < 0) : redL t = true ↔ (redM t = true ∧ 0 < t.1) := by
  unfold redL redM
  simp only [if_pos hd, Bool.and_eq_true, Bool.or_eq_true, decide_eq_true_iff, Bool.not_eq_true', decide_eq_false_iff_not]
  omega
theorem neg_at {D : Int} (D1 : -400 ≤ D) (D3 : D ≤ -3) {x : T3} (hr : redM x = true) (hd : dsc x = D) (h0 : 0 < x.1) : x.1 ≤ x.2.2 ∧ -x.1 ≤ x.2.1 ∧ x.2.1 ≤ x.1 ∧ x.1 ≤ 11 ∧ x.2.2 ≤ 131 ∧ x.1 ≤ isq (absI D) := by
  obtain ⟨h1, h2, h3⟩ := redM_neg hr (by omega)
  obtain ⟨a, b, c⟩ := x
  replace h1 : -a ≤ b := h1
  replace h2 : b ≤ a := h2
  replace h3 : a ≤ c := h3
  replace h0 : 0 < a := h0
  have hd : b * b - 4 * a * c = D := hd
  have hbb : b * b ≤ a * a := by
    have : 0 ≤ (a - b) * (a + b) := Int.mul_nonneg (by omega) (by omega)
    have e : (a - b) * (a + b) = a * a - b * b := by grind
    omega
  have hac : a * a ≤ a * c := Int.mul_le_mul_of_nonneg_left h3 (by omega)
  have eac : 4 * a * c = 4 * (a * c) := by grind
  have b0 : 0 ≤ b * b := sq_nn
  have hA : absI D = -D := by unfold absI; rw [if_pos (by omega)]
  have ha11 : a ≤ 11 := by
    refine Int.not_lt.mp fun h => ?_
    have : 12 * 12 ≤ a * a := Int.mul_le_mul h h (by omega) (by omega)
    omega
  have haa : a * a ≤ 121 := by
    have := Int.mul_le_mul ha11 ha11 (by omega) (by omega)
    omega
  refine ⟨h3, h1, h2, ha11, ?_, ?_⟩
  · show c ≤ 131
    refine Int.not_lt.mp fun h => ?_
    have : 1 * 132 ≤ a * c := Int.mul_le_mul (by omega) h (by omega) (by omega)
    omega
  · show a ≤ isq (absI D)
    rw [hA]
    have w0 := isq_nn (-D)
    have w1 := isq_ok (v := -D) (by omega) (by omega)
    refine Int.not_lt.mp fun h => ?_
    have : (isq (-D) + 1) * (isq (-D) + 1) ≤ a * a := Int.mul_le_mul (by omega) (by omega) (by omega) (by omega)
    omega
theorem arL_neg {D : Int} (D1 : -400 ≤ D) (D3 : D ≤ -3) (x : T3) : x ∈ arL D ↔ (redM x = true ∧ dsc x = D ∧ gcd3 x = 1 ∧ 0 < x.1) := by
  constructor
  · intro h
    obtain ⟨h1, h2, h3, h4⟩ := arL_is h
    have h5 := (redL_neg (by omega)).mp h3
    exact ⟨h5.1, h1, h2, by omega⟩
  · rintro ⟨h1, h2, h3, h4⟩
    obtain ⟨q1, q2, q3, q4, q5, q6⟩ := neg_at D1 D3 h1 h2 h4
    have en : (x.1.natAbs : Int) = x.1 := by omega
    refine is_arL h2 h3 ((redL_neg (by omega)).mpr ⟨h1, by omega⟩) (.inl h4) (by omega) ?_ ?_ ?_
    · rw [en]; unfold arTop; omega
    · rw [en]; unfold arLo; rw [if_pos (by omega)]; exact q2
    · rw [en]; unfold arLo arN; rw [if_pos (by omega), if_pos (by omega)]; omega
theorem a1_ok (D : Int) (D1 : -400 ≤ D) (D3 : D ≤ -3) (hD : isD D = true) : ∀ t ∈ arL D, GoodR t ∧ 0 < t.1 ∧ 0 < t.2.2 ∧ t.1 ≤ 400 ∧ t.2.2 ≤ 400 ∧ t.2.1.natAbs ≤ 400 ∧ dsc t < 0 := by
  intro t ht
  obtain ⟨h1, h2, h3, h4⟩ := (arL_neg D1 D3 t).mp ht
  obtain ⟨q1, q2, q3, q4, q5, q6⟩ := neg_at D1 D3 h1 h2 h4
  refine ⟨⟨⟨by omega, by omega, by omega⟩, .inl (by omega)⟩, h4, by omega, by omega, by omega, by omega, by omega⟩
theorem red_neg {D n : Int} {t : T3} (D1 : -400 ≤ D) (D3 : D ≤ -3) (n0 : 1 ≤ n) (n1 : n ≤ 60) (ht : t ∈ formsW D n (2 * n.natAbs)) : ∃ r, redC 12 t = some r ∧ dsc r = D ∧ bndC r = true ∧ redM r = true ∧ gcd3 r = 1 ∧ ldM t = r ∧ 0 < r.1 := by
  obtain ⟨b, c, hb, rfl, hd, hg, _⟩ := (mem_forms (by omega)).mp ht
  obtain ⟨r, h1, h2, h3, h4, h5⟩ := N1 n0 n1 (by omega) (by omega) (by omega) (by omega) hg
  rw [hd] at h2
  obtain ⟨q1, q2, q3⟩ := redM_neg h4 (by omega)
  have hz : r.1 ≠ 0 := (bnd_of h3).1.1
  exact ⟨r, h1, h2, h3, h4, h5, ldM_neg h1 (by omega), by omega⟩
theorem a2_ok (D n : Int) (D1 : -400 ≤ D) (D3 : D ≤ -3) (hD : isD D = true) (n0 : 1 ≤ n) (n1 : n ≤ 60) : ∀ t ∈ formsW D n (2 * n.natAbs), LdOk t (ldM t) := by
  intro t ht
  obtain ⟨r, h1, h2, h3, h4, h5, h6, h7⟩ := red_neg D1 D3 n0 n1 ht
  exact ⟨r, [], h1, h3, .inl ⟨by omega, rfl⟩, h6⟩
/-- a value is kept by a step -/
theorem val_step (t : T3) (hc : t.2.2 ≠ 0) (u v : Int) : valM (stepM t) (v + stepK t * u) (-u) = valM t u v := by
  have h := stepK_ok t hc
  obtain ⟨a, b, c⟩ := t
  unfold stepM valM
  show c * (v + stepK (a, b, c) * u) * (v + stepK (a, b, c) * u) + stepE (a, b, c) * (v + stepK (a, b, c) * u) * -u + (a - b * stepK (a, b, c) + c * stepK (a, b, c) * stepK (a, b, c)) * -u * -u = a * u * u + b * u * v + c * v * v
  replace h : 2 * c * stepK (a, b, c) = stepE (a, b, c) + b := h
  generalize stepK (a, b, c) = k at h
  generalize stepE (a, b, c) = e at h
  have : e = 2 * c * k - b := by omega
  subst this
  grind
theorem gcd_step (u v k : Int) (h : Int.gcd u v = 1) : Int.gcd (v + k * u) (-u) = 1 := by
  generalize hG : Int.gcd (v + k * u) (-u) = g
  have h1 : (g : Int) ∣ v + k * u := hG ▸ Int.gcd_dvd_left ..
  have h2 : (g : Int) ∣ -u := hG ▸ Int.gcd_dvd_right ..
  have h3 : (g : Int) ∣ u := Int.dvd_neg.mp h2
  have h4 : (g : Int) ∣ v := by
    have := Int.dvd_sub h1 (Int.dvd_mul_of_dvd_right (b := k) h3)
    rwa [show v + k * u - k * u = v by omega] at this
  have h5 : g ∣ Int.gcd u v := Int.dvd_gcd h3 h4
  rw [h] at h5
  exact Nat.dvd_one.mp h5
theorem rep_red {n : Int} : ∀ {k : Nat} {t r : T3} {u v : Int}, redC k t = some r → Int.gcd u v = 1 → valM t u v = n → ∃ u v, Int.gcd u v = 1 ∧ valM r u v = n
  | 0, _, _, _, _, h, _, _ => by cases h
  | k + 1, t, r, u, v, h, hg, hn => by
    replace h : (if bndC t = true then (if redM t = true then some t else redC k (stepM t)) else none) = some r := h
    by_cases hb : bndC t = true
    · rw [if_pos hb] at h
      by_cases hr : redM t = true
      · rw [if_pos hr] at h
        cases h
        exact ⟨u, v, hg, hn⟩
      · rw [if_neg hr] at h
        exact rep_red h (gcd_step u v (stepK t) hg) ((val_step t (bnd_of hb).2.2.1 u v).trans hn)
    · rw [if_neg hb] at h
      cases h
theorem val_neg (t : T3) (u v : Int) : valM t (-u) (-v) = valM t u v := by
  unfold valM
  grind
/-- the law's search finds what is there -/
theorem has_of {x : T3} {n u v : Int} (h0 : 0 < x.1) (hc0 : 0 < x.2.2) (hd : dsc x < 0) (hlow : -1000 ≤ dsc x) (ha : x.1 ≤ 400) (hcc : x.2.2 ≤ 400) (n0 : 1 ≤ n) (n1 : n ≤ 60) (hg : Int.gcd u v = 1) (hn : valM x u v = n) : hasM x n = true := by
  have key : ∀ u v : Int, 0 ≤ v → Int.gcd u v = 1 → valM x u v = n → hasM x n = true := by
    intro u v hv hg hn
    obtain ⟨q1, q2, q3, q4, q5, q6⟩ := far_bnd h0 ha n0 n1 (show 1 ≤ -dsc x by omega)
    obtain ⟨r1, r2, r3, r4, r5, r6⟩ := far_bnd hc0 hcc n0 n1 (show 1 ≤ -dsc x by omega)
    have e1 : 4 * x.1 * n = (2 * x.1 * u + x.2.1 * v) * (2 * x.1 * u + x.2.1 * v) + -dsc x * (v * v) := by
      rw [← hn]
      obtain ⟨a, b, c⟩ := x
      show 4 * a * (a * u * u + b * u * v + c * v * v) = (2 * a * u + b * v) * (2 * a * u + b * v) + -(b * b - 4 * a * c) * (v * v)
      grind
    have e2 : 4 * x.2.2 * n = (2 * x.2.2 * v + x.2.1 * u) * (2 * x.2.2 * v + x.2.1 * u) + -dsc x * (u * u) := by
      rw [← hn]
      obtain ⟨a, b, c⟩ := x
      show 4 * c * (a * u * u + b * u * v + c * v * v) = (2 * c * v + b * u) * (2 * c * v + b * u) + -(b * b - 4 * a * c) * (u * u)
      grind
    have s1 : 0 ≤ (2 * x.1 * u + x.2.1 * v) * (2 * x.1 * u + x.2.1 * v) := sq_nn
    have s2 : 0 ≤ (2 * x.2.2 * v + x.2.1 * u) * (2 * x.2.2 * v + x.2.1 * u) := sq_nn
    have root : ∀ {W m z : Int}, 1 ≤ W → 0 ≤ z → W * (z * z) ≤ m → m ≤ 96000 → 0 ≤ m → z ≤ isq (m.fdiv W + 1) := by
      intro W m z hW hz hle hm hm0
      have hq : z * z ≤ m.fdiv W := by
        rw [Int.fdiv_eq_ediv_of_nonneg _ (by omega)]
        exact Int.le_ediv_of_mul_le (by omega) (by rw [Int.mul_comm]; exact hle)
      have hq2 : m.fdiv W ≤ 96000 := by
        have := Int.natAbs_fdiv_le_natAbs m W
        have h0 : 0 ≤ z * z := sq_nn
        omega
      have h0 : 0 ≤ z * z := sq_nn
      have w0 := isq_nn (m.fdiv W + 1)
      have w1 := isq_ok (v := m.fdiv W + 1) (by omega) (by omega)
      refine Int.not_lt.mp fun h => ?_
      have : (isq (m.fdiv W + 1) + 1) * (isq (m.fdiv W + 1) + 1) ≤ z * z := Int.mul_le_mul (by omega) (by omega) (by omega) (by omega)
      omega
    have hvf : v ≤ isq ((4 * x.1 * n).fdiv (-dsc x) + 1) := root (by omega) hv (by omega) q2 q1
    have huf : (u.natAbs : Int) ≤ isq ((4 * x.2.2 * n).fdiv (-dsc x) + 1) := by
      refine root (by omega) (by omega) ?_ r2 r1
      have : (u.natAbs : Int) * (u.natAbs : Int) = u * u := Int.natAbs_mul_self
      rw [this]
      omega
    have f1 : farM x.1 n (-dsc x) = isq ((4 * x.1 * n).fdiv (-dsc x) + 1) + 1 := rfl
    have f2 : farM x.2.2 n (-dsc x) = isq ((4 * x.2.2 * n).fdiv (-dsc x) + 1) + 1 := rfl
    unfold hasM
    rw [List.any_eq_true]
    refine ⟨v.toNat, List.mem_range.mpr (by omega), ?_⟩
    rw [List.any_eq_true]
    refine ⟨(u + farM x.2.2 n (-dsc x)).toNat, List.mem_range.mpr (by omega), ?_⟩
    have g1 : (((u + farM x.2.2 n (-dsc x)).toNat : Nat) : Int) - farM x.2.2 n (-dsc x) = u := by omega
    have g2 : ((v.toNat : Nat) : Int) = v := by omega
    rw [g1, g2, decide_eq_true hg, decide_eq_true hn]
    rfl
  rcases Int.le_total 0 v with h | h
  · exact key u v h hg hn
  · refine key (-u) (-v) (by omega) ?_ (by rw [val_neg]; exact hn)
    rw [Int.neg_gcd, Int.gcd_neg]
    exact hg
theorem of_has {x : T3} {n : Int} (h : hasM x n = true) : ∃ u v : Int, 0 ≤ v ∧ Int.gcd u v = 1 ∧ valM x u v = n := by
  unfold hasM at h
  rw [List.any_eq_true] at h
  obtain ⟨j, _, h⟩ := h
  rw [List.any_eq_true] at h
  obtain ⟨i, _, h⟩ := h
  obtain ⟨h1, h2⟩ := Bool.and_eq_true_iff.mp h
  exact ⟨_, _, Int.natCast_nonneg j, of_decide_eq_true h1, of_decide_eq_true h2⟩
theorem a3_ok (D n : Int) (D1 : -400 ≤ D) (D3 : D ≤ -3) (hD : isD D = true) (n0 : 1 ≤ n) (n1 : n ≤ 60) (ts us : List T3) (hs : ts.Pairwise (fun x y => leT x y = true)) (hm : ∀ x, x ∈ ts ↔ x ∈ arL D) (hu : SrtT us)
    (hum : ∀ x, x ∈ us ↔ ∃ t ∈ formsW D n (2 * n.natAbs), ldM t = x) : us = (leadsF ts.length ts).filter fun x => hasM x n := by
  have hmR : ∀ x, x ∈ ts ↔ (redM x = true ∧ dsc x = D ∧ gcd3 x = 1 ∧ 0 < x.1) := fun x => (hm x).trans (arL_neg D1 D3 x)
  have one : ∀ x, dsc x = D → rgM x = [x] := fun x hx => by unfold rgM; rw [if_pos (by omega)]
  obtain ⟨i1, i2⟩ := leads_spec ts.length ts (Nat.le_refl _) hs fun x hx y _ hxy z => by
    rw [one x ((hmR x).mp hx).2.1, List.mem_singleton] at hxy
    rw [hxy]
  have hlead : ∀ x, x ∈ leadsF ts.length ts ↔ (redM x = true ∧ dsc x = D ∧ gcd3 x = 1 ∧ 0 < x.1) := fun x => by
    rw [i2, hmR]
    constructor
    · exact fun h => h.1
    · intro h
      refine ⟨h, fun y _ hy => ?_⟩
      rw [one x h.2.1, List.mem_singleton] at hy
      rw [hy]
      exact ltT_irrefl x
  refine srt_ext hu (i1.filter _) fun x => ?_
  rw [List.mem_filter, hlead, hum]
  constructor
  · rintro ⟨t, ht, rfl⟩
    obtain ⟨r, h1, h2, h3, h4, h5, h6, h7⟩ := red_neg D1 D3 n0 n1 ht
    rw [h6]
    refine ⟨⟨h4, h2, h5, h7⟩, ?_⟩
    obtain ⟨b, c, hb, rfl, hd, hg, _⟩ := (mem_forms (by omega)).mp ht
    obtain ⟨q1, q2, q3, q4, q5, q6⟩ := neg_at D1 D3 h4 h2 h7
    obtain ⟨u, v, g1, g2⟩ := rep_red (n := n) (u := 1) (v := 0) h1 (by decide) (by show n * 1 * 1 + b * 1 * 0 + c * 0 * 0 = n; omega)
    exact has_of h7 (by omega) (by omega) (by omega) (by omega) (by omega) n0 n1 g1 g2
  · rintro ⟨⟨h1, h2, h3, h4⟩, h5⟩
    obtain ⟨u, v, hv, hg, hn⟩ := of_has h5
    obtain ⟨b, c, g1, g2, g3, g4, g5⟩ := N2_ok h1 (by omega) (by omega) h4 h3 hv hg (by omega)
    rw [hn] at g2 g3 g4 g5
    refine ⟨_, (mem_forms (by omega)).mpr ⟨b.toNat, c, by omega, ?_, g3.trans h2, g4, .inr (by omega)⟩, ?_⟩
    · rw [Int.toNat_of_nonneg g1]
    · exact ldM_neg g5 (by omega)
theorem a4_ok (D n : Int) (D1 : -400 ≤ D) (D3 : D ≤ -3) (n0 : 1 ≤ n) (n1 : n ≤ 60) : formsW D (-n) (2 * (-n).natAbs) = [] := by
  refine List.eq_nil_iff_forall_not_mem.mpr fun t ht => ?_
  obtain ⟨_, _, _, _, _, _, h⟩ := (mem_forms (by omega)).mp ht
  omega
theorem c2_ok : (∀ t ∈ formsW (-20) 7 (2 * (7 : Int).natAbs), LdOk t (ldM t)) ∧ ∃ t ∈ formsW (-20) 7 (2 * (7 : Int).natAbs), ldM t = (2, 2, 3) := by
  refine ⟨a2_ok (-20) 7 (by decide) (by decide) (by decide +kernel) (by decide) (by decide), (7, 6, 2), ?_, by decide +kernel⟩
  exact (mem_forms (by decide)).mpr ⟨6, 2, by decide, rfl, by decide, by decide +kernel, .inr (by decide)⟩
theorem plaw : PLaw where
  a1 := a1_ok
  a2 := a2_ok
  a3 := a3_ok
  a4 := fun D n D1 D3 n0 n1 => a4_ok D n D1 D3 n0 n1
  b1 := b1_ok
  b2 := b2_ok
  b3 := b3_ok
  b4 := b4_ok
  b5 := b5_ok
  c1 := c1_ok
  c2 := c2_ok
end G41
set_option Elab.async false
set_option linter.all false
set_option maxRecDepth 100000
set_option maxHeartbeats 4000000
namespace G41
open PySem PySem.Spec PyProof.Rows L2
/-! what the head says, read -/
section
variable {K : PySem.W.Frag}
theorem sayD (c : obsX K = valX) : He.SaysD hfa hfn K := congrArg (fun z : AlX => z.1) c
theorem sayB (c : obsX K = valX) : (moreB K && hpr.all fun d => soundAt K (prG K d.name) d) = true := congrArg (fun z : AlX => z.2.1) c
theorem sayP (c : obsX K = valX) : (hpr.map fun d => seenAt K (prG K d.name)) = hpr.map He.DefD.val := congrArg (fun z : AlX => z.2.2) c
theorem pr_seen (cP : (hpr.map fun d => seenAt K (prG K d.name)) = hpr.map He.DefD.val) (i : Nat) {d : He.DefD} (h : hpr[i]? = some d) : seenAt K (prG K d.name) = d.val := by
  have e : (hpr.map fun d => seenAt K (prG K d.name))[i]? = (hpr.map He.DefD.val)[i]? := by rw [cP]
  rw [List.getElem?_map, List.getElem?_map, h] at e
  exact Option.some.inj e
theorem pr_sound (cB : (moreB K && hpr.all fun d => soundAt K (prG K d.name) d) = true) (i : Nat) {d : He.DefD} (h : hpr[i]? = some d) : soundAt K (prG K d.name) d = true :=
  List.all_eq_true.mp (He.ba cB).2 d (List.mem_of_getElem? h)
theorem cls_b (cB : (moreB K && hpr.all fun d => soundAt K (prG K d.name) d) = true) : clsB K = true := (He.ba (He.ba cB).1).1
theorem unk_b (cB : (moreB K && hpr.all fun d => soundAt K (prG K d.name) d) = true) : unkB K = true ∧ PySem.W.nsIn K mainGlobals "UNKNOWNS" = some (some (.ref (He.ga K "UNKNOWNS"))) :=
  ⟨(He.ba (He.ba (He.ba cB).1).2).1, He.eqO_ok (He.ba (He.ba (He.ba (He.ba cB).1).2).2).1⟩
theorem pr_b0 (cB : (moreB K && hpr.all fun d => soundAt K (prG K d.name) d) = true) : prB K "coefficients" = true := (He.ba (He.ba (He.ba (He.ba (He.ba cB).1).2).2).2).1
theorem pr_b1 (cB : (moreB K && hpr.all fun d => soundAt K (prG K d.name) d) = true) : prB K "content" = true := (He.ba (He.ba (He.ba (He.ba (He.ba cB).1).2).2).2).2
theorem pr_ok {x : Str} (h : prB K x = true) : PropOf K (He.ga K "Form") x (prO K x) (prG K x) := by
  obtain ⟨h1, h2⟩ := He.ba h
  obtain ⟨h3, h4⟩ := He.ba h2
  obtain ⟨h5, h6⟩ := He.ba h4
  refine ⟨He.eqO_ok h1, He.eqO_ok h3, of_decide_eq_true h5, ?_⟩
  split at h6
  · rename_i g r e
    exact ⟨r, by rw [e, of_decide_eq_true h6]⟩
  · cases h6
theorem ins_ok (h : clsB K = true) : InsF K (He.ga K "Form") := by
  obtain ⟨h1, h2⟩ := He.ba h
  obtain ⟨h3, h4⟩ := He.ba h2
  obtain ⟨h5, h6⟩ := He.ba h4
  obtain ⟨h7, h8⟩ := He.ba h6
  exact ⟨He.eqO_ok h1, He.eqO_ok h3, of_decide_eq_true h5, of_decide_eq_true h7⟩
theorem ne_ok (h : clsB K = true) : PySem.W.findIn K (.ref (He.ga K "Form")) "__ne__" = some (some (.builtin "object.__ne__")) := by
  obtain ⟨h1, h2⟩ := He.ba h
  obtain ⟨h3, h4⟩ := He.ba h2
  obtain ⟨h5, h6⟩ := He.ba h4
  obtain ⟨h7, h8⟩ := He.ba h6
  exact He.eqO_ok h8
theorem unk_ok {h : Heap} {w : World} {mg : Str → Option Value} (X : K.In h) (G : h.Ns mainGlobals mg) (c : unkB K = true) (cn : PySem.W.nsIn K mainGlobals "UNKNOWNS" = some (some (.ref (He.ga K "UNKNOWNS")))) : UnkF K w mg (He.ga K "UNKNOWNS") := by
  unfold unkB at c
  split at c
  · rename_i cl es ep sl hl
    obtain ⟨c1, c2⟩ := He.ba c
    obtain ⟨c3, c4⟩ := He.ba c2
    obtain ⟨c5, c6⟩ := He.ba c4
    obtain ⟨c7, c8⟩ := He.ba c6
    refine ⟨PySem.W.mg_of X G cn, by simpa using c8, fun prog h' X' => ⟨fun k => findBy Value.isInt es k, ?_, ?_⟩⟩
    · refine ⟨_, es, ep, X' _ _ hl, ⟨congrArg Value.type (of_decide_eq_true c1), rfl, by simpa using c3⟩, rfl, fun e he => ?_, fun k => rfl⟩
      have h1 := List.all_eq_true.mp c5 e (Array.mem_toList_iff.mpr he)
      split at h1
      · rename_i k t ek
        refine ⟨k, ?_, of_decide_eq_true h1⟩
        rw [ek]
        exact int_is (prog := prog) (w := w) k t
      · cases h1
    · split at c7
      · rename_i i t e
        exact ⟨t, e.trans (by rw [of_decide_eq_true c7])⟩
      · cases c7
  · cases c
end
theorem facts {P : Program} {w : World} {K : PySem.W.Frag} {h : Heap} {mg : Str → Option Value} {f : Addr} (X : K.In h) (G : h.Ns mainGlobals mg) (hfa : mg ("law" : Str) = some (.ref f)) (c : obsX K = valX) :
    ∃ fd : FuncData, (∀ (s : Shared) (v : Value), BindsTo s fd ⟨[v], []⟩ [("_law_cells", v)]) ∧ ∀ base : Heap, K.In base → base.Ns mainGlobals mg → FnOk P w K mg base CX0 14 f fd ["_law_cells"] (spLaw K) := by
  have cD := sayD c
  have cB := sayB c
  have cP := sayP c
  obtain ⟨fd_law, F_law⟩ := cD.def_ 54 (d := _) rfl
  replace F_law : FnP K "law" s_law (He.ga K "law") fd_law := F_law
  have e := hfa.symm.trans (He.glo_ok X G (cD.fact 54 (f := .glo "law") rfl))
  cases e
  have b := FunD.bindsA (ps := ["_law_cells"]) F_law fun _ _ _ _ _ _ us hl => match us, hl with | [_], _ => rfl
  refine ⟨fd_law, fun s v => b s [v] rfl, fun base XB GB => ?_⟩
  have U := unk_ok (w := w) X G (unk_b cB).1 (unk_b cB).2
  have L := plaw
  have T : Tx K mg := ⟨He.free_ok X G (cD.fact 55 (f := .free "abs") rfl),
    He.free_ok X G (cD.fact 56 (f := .free "len") rfl),
    He.free_ok X G (cD.fact 57 (f := .free "range") rfl),
    He.free_ok X G (cD.fact 58 (f := .free "list") rfl),
    He.free_ok X G (cD.fact 59 (f := .free "tuple") rfl),
    He.free_ok X G (cD.fact 60 (f := .free "int") rfl),
    He.free_ok X G (cD.fact 61 (f := .free "bool") rfl),
    He.free_ok X G (cD.fact 62 (f := .free "str") rfl),
    He.free_ok X G (cD.fact 63 (f := .free "isinstance") rfl),
    He.free_ok X G (cD.fact 64 (f := .free "sorted") rfl),
    He.free_ok X G (cD.fact 65 (f := .free "min") rfl),
    He.free_ok X G (cD.fact 66 (f := .free "max") rfl),
    He.free_ok X G (cD.fact 67 (f := .free "sum") rfl),
    He.free_ok X G (cD.fact 68 (f := .free "all") rfl),
    He.free_ok X G (cD.fact 69 (f := .free "zip") rfl),
    He.free_ok X G (cD.fact 70 (f := .free "enumerate") rfl),
    He.free_ok X G (cD.fact 71 (f := .free "divmod") rfl),
    He.int_ok X G (cD.fact 72 (f := .int "MOST_SIZE" (1000000000000)) rfl),
    He.int_ok X G (cD.fact 73 (f := .int "LEAST_DISCRIMINANT" (-100000)) rfl),
    He.int_ok X G (cD.fact 74 (f := .int "MOST_DISCRIMINANT" (1000)) rfl),
    He.int_ok X G (cD.fact 75 (f := .int "MOST_NUMBER" (1000)) rfl)⟩
  obtain ⟨fd_common_divisor, F_common_divisor⟩ := cD.def_ 0 (d := _) rfl
  replace F_common_divisor : FnP K "common_divisor" s_common_divisor (He.ga K "common_divisor") fd_common_divisor := F_common_divisor
  have m_common_divisor := He.glo_ok X G (cD.fact 0 (f := .glo "common_divisor") rfl)
  have C_common_divisor : Cal P w K mg base 1 "common_divisor" ps_common_divisor spGcd := ⟨_, fd_common_divisor, (ok_common_divisor T F_common_divisor), m_common_divisor, F_common_divisor.kp, F_common_divisor.bindsN (fun _ _ _ _ _ _ us hl => match us, hl with | [_, _], _ => rfl)⟩
  obtain ⟨fd_common_of, F_common_of⟩ := cD.def_ 1 (d := _) rfl
  replace F_common_of : FnP K "common_of" s_common_of (He.ga K "common_of") fd_common_of := F_common_of
  have m_common_of := He.glo_ok X G (cD.fact 1 (f := .glo "common_of") rfl)
  have C_common_of : Cal P w K mg base 2 "common_of" ps_common_of (spGcd3 K) := ⟨_, fd_common_of, (ok_common_of T C_common_divisor F_common_of), m_common_of, F_common_of.kp, F_common_of.bindsN (fun _ _ _ _ _ _ us hl => match us, hl with | [_], _ => rfl)⟩
  obtain ⟨fd_root_of, F_root_of⟩ := cD.def_ 2 (d := _) rfl
  replace F_root_of : FnP K "root_of" s_root_of (He.ga K "root_of") fd_root_of := F_root_of
  have m_root_of := He.glo_ok X G (cD.fact 2 (f := .glo "root_of") rfl)
  have C_root_of : Cal P w K mg base 1 "root_of" ps_root_of spRoot := ⟨_, fd_root_of, (ok_root_of T F_root_of), m_root_of, F_root_of.kp, F_root_of.bindsN (fun _ _ _ _ _ _ us hl => match us, hl with | [_], _ => rfl)⟩
  obtain ⟨fd_is_square, F_is_square⟩ := cD.def_ 3 (d := _) rfl
  replace F_is_square : FnP K "is_square" s_is_square (He.ga K "is_square") fd_is_square := F_is_square
  have m_is_square := He.glo_ok X G (cD.fact 3 (f := .glo "is_square") rfl)
  have C_is_square : Cal P w K mg base 2 "is_square" ps_is_square spIsSquare := ⟨_, fd_is_square, (ok_is_square T C_root_of F_is_square), m_is_square, F_is_square.kp, F_is_square.bindsN (fun _ _ _ _ _ _ us hl => match us, hl with | [_], _ => rfl)⟩
  obtain ⟨fd_divisors_of, F_divisors_of⟩ := cD.def_ 4 (d := _) rfl
  replace F_divisors_of : FnP K "divisors_of" s_divisors_of (He.ga K "divisors_of") fd_divisors_of := F_divisors_of
  have m_divisors_of := He.glo_ok X G (cD.fact 4 (f := .glo "divisors_of") rfl)
  have C_divisors_of : Cal P w K mg base 1 "divisors_of" ps_divisors_of spDivs := ⟨_, fd_divisors_of, (ok_divisors_of T F_divisors_of), m_divisors_of, F_divisors_of.kp, F_divisors_of.bindsN (fun _ _ _ _ _ _ us hl => match us, hl with | [_], _ => rfl)⟩
  obtain ⟨fd_unit_table, F_unit_table⟩ := cD.def_ 5 (d := _) rfl
  replace F_unit_table : FnP K "unit_table" s_unit_table (He.ga K "unit_table") fd_unit_table := F_unit_table
  have m_unit_table := He.glo_ok X G (cD.fact 5 (f := .glo "unit_table") rfl)
  have C_unit_table : Cal P w K mg base 1 "unit_table" ps_unit_table (spUnit K) := ⟨_, fd_unit_table, (ok_unit_table T F_unit_table), m_unit_table, F_unit_table.kp, F_unit_table.bindsN (fun _ _ _ _ _ _ us hl => match us, hl with | [_], _ => rfl)⟩
  obtain ⟨fd_turned, F_turned⟩ := cD.def_ 6 (d := _) rfl
  replace F_turned : FnP K "turned" s_turned (He.ga K "turned") fd_turned := F_turned
  have m_turned := He.glo_ok X G (cD.fact 6 (f := .glo "turned") rfl)
  have C_turned : Cal P w K mg base 1 "turned" ps_turned (spTurned K) := ⟨_, fd_turned, (ok_turned T F_turned), m_turned, F_turned.kp, F_turned.bindsN (fun _ _ _ _ _ _ us hl => match us, hl with | [_], _ => rfl)⟩
  obtain ⟨fd_joined_tables, F_joined_tables⟩ := cD.def_ 7 (d := _) rfl
  replace F_joined_tables : FnP K "joined_tables" s_joined_tables (He.ga K "joined_tables") fd_joined_tables := F_joined_tables
  have m_joined_tables := He.glo_ok X G (cD.fact 7 (f := .glo "joined_tables") rfl)
  have C_joined_tables : Cal P w K mg base 2 "joined_tables" ps_joined_tables (spJoined K) := ⟨_, fd_joined_tables, (ok_joined_tables T C_turned F_joined_tables), m_joined_tables, F_joined_tables.kp, F_joined_tables.bindsN (fun _ _ _ _ _ _ us hl => match us, hl with | [_, _], _ => rfl)⟩
  obtain ⟨fd_is_integer, F_is_integer⟩ := cD.def_ 8 (d := _) rfl
  replace F_is_integer : FnP K "is_integer" s_is_integer (He.ga K "is_integer") fd_is_integer := F_is_integer
  have m_is_integer := He.glo_ok X G (cD.fact 8 (f := .glo "is_integer") rfl)
  have C_is_integer : Cal P w K mg base 1 "is_integer" ps_is_integer (fun vs H Q _ => ∃ v : Int, vs = [.int v] ∧ Q (.bl true) H) := ⟨_, fd_is_integer, (ok_is_integer T F_is_integer), m_is_integer, F_is_integer.kp, F_is_integer.bindsN (fun _ _ _ _ _ _ us hl => match us, hl with | [_], _ => rfl)⟩
  obtain ⟨fd_lessened, F_lessened⟩ := cD.def_ 9 (d := _) rfl
  replace F_lessened : FnP K "lessened" s_lessened (He.ga K "lessened") fd_lessened := F_lessened
  have m_lessened := He.glo_ok X G (cD.fact 9 (f := .glo "lessened") rfl)
  have C_lessened : Cal P w K mg base 1 "lessened" ps_lessened (spLess K) := ⟨_, fd_lessened, (ok_lessened T F_lessened), m_lessened, F_lessened.kp, F_lessened.bindsN (fun _ _ _ _ _ _ us hl => match us, hl with | [_, _, _, _], _ => rfl)⟩
  obtain ⟨fd_fraction, F_fraction⟩ := cD.def_ 10 (d := _) rfl
  replace F_fraction : FnP K "fraction" s_fraction (He.ga K "fraction") fd_fraction := F_fraction
  have m_fraction := He.glo_ok X G (cD.fact 10 (f := .glo "fraction") rfl)
  have C_fraction : Cal P w K mg base 2 "fraction" ps_fraction (spFrac K) := ⟨_, fd_fraction, (ok_fraction T C_common_divisor F_fraction), m_fraction, F_fraction.kp, F_fraction.bindsN (fun _ _ _ _ _ _ us hl => match us, hl with | [_, _], _ => rfl)⟩
  obtain ⟨fd_exchanged, F_exchanged⟩ := cD.def_ 11 (d := _) rfl
  replace F_exchanged : FnP K "exchanged" s_exchanged (He.ga K "exchanged") fd_exchanged := F_exchanged
  have m_exchanged := He.glo_ok X G (cD.fact 11 (f := .glo "exchanged") rfl)
  have C_exchanged : Cal P w K mg base 1 "exchanged" ps_exchanged (spExch K) := ⟨_, fd_exchanged, (ok_exchanged T F_exchanged), m_exchanged, F_exchanged.kp, F_exchanged.bindsN (fun _ _ _ _ _ _ us hl => match us, hl with | [_, _, _], _ => rfl)⟩
  obtain ⟨fd_with_lead, F_with_lead⟩ := cD.def_ 12 (d := _) rfl
  replace F_with_lead : FnP K "with_lead" s_with_lead (He.ga K "with_lead") fd_with_lead := F_with_lead
  have m_with_lead := He.glo_ok X G (cD.fact 12 (f := .glo "with_lead") rfl)
  have C_with_lead : Cal P w K mg base 2 "with_lead" ps_with_lead (spLead K) := ⟨_, fd_with_lead, (ok_with_lead T C_exchanged F_with_lead), m_with_lead, F_with_lead.kp, F_with_lead.bindsN (fun _ _ _ _ _ _ us hl => match us, hl with | [_], _ => rfl)⟩
  obtain ⟨fd_behind, F_behind⟩ := cD.def_ 13 (d := _) rfl
  replace F_behind : FnP K "behind" s_behind (He.ga K "behind") fd_behind := F_behind
  have m_behind := He.glo_ok X G (cD.fact 13 (f := .glo "behind") rfl)
  have C_behind : Cal P w K mg base 3 "behind" ps_behind (spBehind K) := ⟨_, fd_behind, (ok_behind T C_fraction F_behind), m_behind, F_behind.kp, F_behind.bindsN (fun _ _ _ _ _ _ us hl => match us, hl with | [_, _], _ => rfl)⟩
  obtain ⟨fd_diagonal, F_diagonal⟩ := cD.def_ 14 (d := _) rfl
  replace F_diagonal : FnP K "diagonal" s_diagonal (He.ga K "diagonal") fd_diagonal := F_diagonal
  have m_diagonal := He.glo_ok X G (cD.fact 14 (f := .glo "diagonal") rfl)
  have C_diagonal : Cal P w K mg base 4 "diagonal" ps_diagonal (spDiag K) := ⟨_, fd_diagonal, (ok_diagonal T C_with_lead C_behind F_diagonal), m_diagonal, F_diagonal.kp, F_diagonal.bindsN (fun _ _ _ _ _ _ us hl => match us, hl with | [_], _ => rfl)⟩
  obtain ⟨fd_kind_for, F_kind_for⟩ := cD.def_ 15 (d := _) rfl
  replace F_kind_for : FnP K "kind_for" s_kind_for (He.ga K "kind_for") fd_kind_for := F_kind_for
  have m_kind_for := He.glo_ok X G (cD.fact 15 (f := .glo "kind_for") rfl)
  have C_kind_for : Cal P w K mg base 1 "kind_for" ps_kind_for (fun vs H Q _ => ∃ p m x y, vs = [.ref p, .int m] ∧ SqT K H p [.int x, .int y] ∧ ∀ z : Str, z.length ≤ 10 → Q (.str z) H) := ⟨_, fd_kind_for, (ok_kind_for T F_kind_for), m_kind_for, F_kind_for.kp, F_kind_for.bindsN (fun _ _ _ _ _ _ us hl => match us, hl with | [_, _], _ => rfl)⟩
  obtain ⟨fd_is_between, F_is_between⟩ := cD.def_ 16 (d := _) rfl
  replace F_is_between : FnP K "is_between" s_is_between (He.ga K "is_between") fd_is_between := F_is_between
  have m_is_between := He.glo_ok X G (cD.fact 16 (f := .glo "is_between") rfl)
  have C_is_between : Cal P w K mg base 2 "is_between" ps_is_between (fun vs H Q _ => ∃ v a b : Int, vs = [.int v, .int a, .int b] ∧ Q (.bl (decide (a ≤ v) && decide (v ≤ b))) H) := ⟨_, fd_is_between, (ok_is_between T C_is_integer F_is_between), m_is_between, F_is_between.kp, F_is_between.bindsN (fun _ _ _ _ _ _ us hl => match us, hl with | [_, _, _], _ => rfl)⟩
  obtain ⟨fd_pairs_of, F_pairs_of⟩ := cD.def_ 17 (d := _) rfl
  replace F_pairs_of : FnP K "pairs_of" s_pairs_of (He.ga K "pairs_of") fd_pairs_of := F_pairs_of
  have m_pairs_of := He.glo_ok X G (cD.fact 17 (f := .glo "pairs_of") rfl)
  have C_pairs_of : Cal P w K mg base 1 "pairs_of" ps_pairs_of (spPairs K) := ⟨_, fd_pairs_of, (ok_pairs_of T F_pairs_of), m_pairs_of, F_pairs_of.kp, F_pairs_of.bindsN (fun _ _ _ _ _ _ us hl => match us, hl with | [_], _ => rfl)⟩
  obtain ⟨fd_table_for, F_table_for⟩ := cD.def_ 18 (d := _) rfl
  replace F_table_for : FnP K "table_for" s_table_for (He.ga K "table_for") fd_table_for := F_table_for
  have m_table_for := He.glo_ok X G (cD.fact 18 (f := .glo "table_for") rfl)
  have C_table_for : Cal P w K mg base 2 "table_for" ps_table_for (spTable K) := ⟨_, fd_table_for, (ok_table_for T U C_pairs_of F_table_for), m_table_for, F_table_for.kp, F_table_for.bindsN (fun _ _ _ _ _ _ us hl => match us, hl with | [_], _ => rfl)⟩
  obtain ⟨fd_check_coefficients, F_check_coefficients⟩ := cD.def_ 19 (d := _) rfl
  replace F_check_coefficients : FnP K "check_coefficients" s_check_coefficients (He.ga K "check_coefficients") fd_check_coefficients := F_check_coefficients
  have m_check_coefficients := He.glo_ok X G (cD.fact 19 (f := .glo "check_coefficients") rfl)
  have C_check_coefficients : Cal P w K mg base 3 "check_coefficients" ps_check_coefficients (spChk K) := ⟨_, fd_check_coefficients, (ok_check_coefficients T U C_is_between F_check_coefficients), m_check_coefficients, F_check_coefficients.kp, F_check_coefficients.bindsN (fun _ _ _ _ _ _ us hl => match us, hl with | [_], _ => rfl)⟩
  obtain ⟨fd_determinant, F_determinant⟩ := cD.def_ 20 (d := _) rfl
  replace F_determinant : FnP K "determinant" s_determinant (He.ga K "determinant") fd_determinant := F_determinant
  have m_determinant := He.glo_ok X G (cD.fact 20 (f := .glo "determinant") rfl)
  have C_determinant : Cal P w K mg base 2 "determinant" ps_determinant (spDet K) := ⟨_, fd_determinant, (ok_determinant T C_lessened F_determinant), m_determinant, F_determinant.kp, F_determinant.bindsN (fun _ _ _ _ _ _ us hl => match us, hl with | [_], _ => rfl)⟩
  obtain ⟨fd_signature_for, F_signature_for⟩ := cD.def_ 21 (d := _) rfl
  replace F_signature_for : FnP K "signature_for" s_signature_for (He.ga K "signature_for") fd_signature_for := F_signature_for
  have m_signature_for := He.glo_ok X G (cD.fact 21 (f := .glo "signature_for") rfl)
  have C_signature_for : Cal P w K mg base 5 "signature_for" ps_signature_for (spSig K) := ⟨_, fd_signature_for, (ok_signature_for T C_diagonal F_signature_for), m_signature_for, F_signature_for.kp, F_signature_for.bindsN (fun _ _ _ _ _ _ us hl => match us, hl with | [_], _ => rfl)⟩
  have M_Form : Mk K (He.ga K "Form") (He.ma K (He.ga K "Form") "__init__") := He.mkr_ok (cD.fact 81 (f := .mkr "Form") rfl)
  have FF : FormF K mg (He.ga K "Form") := ⟨He.cls_ok (cD.fact 76 (f := .cls "Form") rfl), He.noat_ok (cD.fact 78 (f := .noat "Form" "held") rfl), He.noat_ok (cD.fact 79 (f := .noat "Form" "words") rfl), He.glo_ok X G (cD.fact 77 (f := .glo "Form") rfl)⟩
  obtain ⟨fd_init, F_init⟩ := cD.def_ 55 (d := _) rfl
  replace F_init : FnM K "__init__" "Form.__init__" s_Form__init (He.ma K (He.ga K "Form") "__init__") fd_init := F_init
  have MF : MkF P w K mg base (He.ga K "Form") := ⟨FF.nm, _, fd_init, M_Form, (ok_init T FF C_check_coefficients C_table_for C_signature_for C_determinant C_kind_for F_init), F_init.bindsN (fun _ _ _ _ _ _ us hl => match us, hl with | [_, _], _ => rfl)⟩
  obtain ⟨fd_coefficients, F_coefficients⟩ := fun_at (d := ⟨("Form", some "coefficients"), "coefficients", "Form.coefficients", defArgs s_Form_coefficients, defBody s_Form_coefficients, defScope s_Form_coefficients, [], []⟩) (pr_seen cP 0 rfl) (pr_sound cB 0 rfl)
  replace F_coefficients : FnM K "coefficients" "Form.coefficients" s_Form_coefficients (prG K "coefficients") fd_coefficients := F_coefficients
  have CP_coefficients : PrpF P w K mg base (He.ga K "Form") "coefficients" 1 ps_Form_coefficients (spCoef K (He.ga K "Form")) := ⟨FF.cls, prO K "coefficients", prG K "coefficients", fd_coefficients, pr_ok (pr_b0 cB), (ok_coefficients T FF F_coefficients), F_coefficients.bindsN (fun _ _ _ _ _ _ us hl => match us, hl with | [_], _ => rfl)⟩
  obtain ⟨fd_content, F_content⟩ := fun_at (d := ⟨("Form", some "content"), "content", "Form.content", defArgs s_Form_content, defBody s_Form_content, defScope s_Form_content, [], []⟩) (pr_seen cP 1 rfl) (pr_sound cB 1 rfl)
  replace F_content : FnM K "content" "Form.content" s_Form_content (prG K "content") fd_content := F_content
  have CP_content : PrpF P w K mg base (He.ga K "Form") "content" 3 ps_Form_content (spCont K (He.ga K "Form")) := ⟨FF.cls, prO K "content", prG K "content", fd_content, pr_ok (pr_b1 cB), (ok_content T FF C_common_of F_content), F_content.bindsN (fun _ _ _ _ _ _ us hl => match us, hl with | [_], _ => rfl)⟩
  have IF : InsF K (He.ga K "Form") := ins_ok (cls_b cB)
  have Mt_eq := He.meth_ok (cD.fact 80 (f := .meth "Form" "__eq__") rfl)
  obtain ⟨fd_eq, F_eq⟩ := cD.def_ 56 (d := _) rfl
  replace F_eq : FnM K "__eq__" "Form.__eq__" s_Form__eq (He.ma K (He.ga K "Form") "__eq__") fd_eq := F_eq
  have EF : EqF P w K mg base (He.ga K "Form") := ⟨IF.hm, ne_ok (cls_b cB), _, fd_eq, Mt_eq.at_, Mt_eq.fn, F_eq.bindsN (fun _ _ _ _ _ _ us hl => match us, hl with | [_, _], _ => rfl), (ok_eq T FF IF F_eq)⟩
  obtain ⟨fd_discriminant_for, F_discriminant_for⟩ := cD.def_ 22 (d := _) rfl
  replace F_discriminant_for : FnP K "discriminant_for" s_discriminant_for (He.ga K "discriminant_for") fd_discriminant_for := F_discriminant_for
  have m_discriminant_for := He.glo_ok X G (cD.fact 22 (f := .glo "discriminant_for") rfl)
  have C_discriminant_for : Cal P w K mg base 3 "discriminant_for" ps_discriminant_for (spDsc K (He.ga K "Form")) := ⟨_, fd_discriminant_for, (ok_discriminant_for T CP_coefficients F_discriminant_for), m_discriminant_for, F_discriminant_for.kp, F_discriminant_for.bindsN (fun _ _ _ _ _ _ us hl => match us, hl with | [_], _ => rfl)⟩
  obtain ⟨fd_is_reduced_form, F_is_reduced_form⟩ := cD.def_ 23 (d := _) rfl
  replace F_is_reduced_form : FnP K "is_reduced_form" s_is_reduced_form (He.ga K "is_reduced_form") fd_is_reduced_form := F_is_reduced_form
  have m_is_reduced_form := He.glo_ok X G (cD.fact 23 (f := .glo "is_reduced_form") rfl)
  have C_is_reduced_form : Cal P w K mg base 4 "is_reduced_form" ps_is_reduced_form (spRed K (He.ga K "Form")) := ⟨_, fd_is_reduced_form, (ok_is_reduced_form T CP_coefficients C_discriminant_for F_is_reduced_form), m_is_reduced_form, F_is_reduced_form.kp, F_is_reduced_form.bindsN (fun _ _ _ _ _ _ us hl => match us, hl with | [_], _ => rfl)⟩
  obtain ⟨fd_is_discriminant, F_is_discriminant⟩ := cD.def_ 24 (d := _) rfl
  replace F_is_discriminant : FnP K "is_discriminant" s_is_discriminant (He.ga K "is_discriminant") fd_is_discriminant := F_is_discriminant
  have m_is_discriminant := He.glo_ok X G (cD.fact 24 (f := .glo "is_discriminant") rfl)
  have C_is_discriminant : Cal P w K mg base 3 "is_discriminant" ps_is_discriminant spIsD := ⟨_, fd_is_discriminant, (ok_is_discriminant T C_is_between C_is_square F_is_discriminant), m_is_discriminant, F_is_discriminant.kp, F_is_discriminant.bindsN (fun _ _ _ _ _ _ us hl => match us, hl with | [_], _ => rfl)⟩
  obtain ⟨fd_check_discriminant, F_check_discriminant⟩ := cD.def_ 25 (d := _) rfl
  replace F_check_discriminant : FnP K "check_discriminant" s_check_discriminant (He.ga K "check_discriminant") fd_check_discriminant := F_check_discriminant
  have m_check_discriminant := He.glo_ok X G (cD.fact 25 (f := .glo "check_discriminant") rfl)
  have C_check_discriminant : Cal P w K mg base 4 "check_discriminant" ps_check_discriminant (fun vs H Q _ => ∃ v : Int, vs = [.int v] ∧ isD v = true ∧ ∀ H', Same H H' → Q .non H') := ⟨_, fd_check_discriminant, (ok_check_discriminant T C_is_discriminant F_check_discriminant), m_check_discriminant, F_check_discriminant.kp, F_check_discriminant.bindsN (fun _ _ _ _ _ _ us hl => match us, hl with | [_], _ => rfl)⟩
  obtain ⟨fd_stepped, F_stepped⟩ := cD.def_ 26 (d := _) rfl
  replace F_stepped : FnP K "stepped" s_stepped (He.ga K "stepped") fd_stepped := F_stepped
  have m_stepped := He.glo_ok X G (cD.fact 26 (f := .glo "stepped") rfl)
  have C_stepped : Cal P w K mg base 8 "stepped" ps_stepped (spStep K (He.ga K "Form")) := ⟨_, fd_stepped, (ok_stepped T MF CP_coefficients C_discriminant_for C_root_of F_stepped), m_stepped, F_stepped.kp, F_stepped.bindsN (fun _ _ _ _ _ _ us hl => match us, hl with | [_], _ => rfl)⟩
  obtain ⟨fd_reduced_with, F_reduced_with⟩ := cD.def_ 27 (d := _) rfl
  replace F_reduced_with : FnP K "reduced_with" s_reduced_with (He.ga K "reduced_with") fd_reduced_with := F_reduced_with
  have m_reduced_with := He.glo_ok X G (cD.fact 27 (f := .glo "reduced_with") rfl)
  have C_reduced_with : Cal P w K mg base 9 "reduced_with" ps_reduced_with (spRW K (He.ga K "Form")) := ⟨_, fd_reduced_with, (ok_reduced_with T C_unit_table C_joined_tables C_is_reduced_form C_stepped F_reduced_with), m_reduced_with, F_reduced_with.kp, F_reduced_with.bindsN (fun _ _ _ _ _ _ us hl => match us, hl with | [_], _ => rfl)⟩
  obtain ⟨fd_ring_from, F_ring_from⟩ := cD.def_ 28 (d := _) rfl
  replace F_ring_from : FnP K "ring_from" s_ring_from (He.ga K "ring_from") fd_ring_from := F_ring_from
  have m_ring_from := He.glo_ok X G (cD.fact 28 (f := .glo "ring_from") rfl)
  have C_ring_from : Cal P w K mg base 9 "ring_from" ps_ring_from (spRing K (He.ga K "Form")) := ⟨_, fd_ring_from, (ok_ring_from T EF C_unit_table C_joined_tables C_discriminant_for C_stepped F_ring_from), m_ring_from, F_ring_from.kp, F_ring_from.bindsN (fun _ _ _ _ _ _ us hl => match us, hl with | [_], _ => rfl)⟩
  obtain ⟨fd_ring_of, F_ring_of⟩ := cD.def_ 29 (d := _) rfl
  replace F_ring_of : FnP K "ring_of" s_ring_of (He.ga K "ring_of") fd_ring_of := F_ring_of
  have m_ring_of := He.glo_ok X G (cD.fact 29 (f := .glo "ring_of") rfl)
  have C_ring_of : Cal P w K mg base 10 "ring_of" ps_ring_of (spRO K (He.ga K "Form")) := ⟨_, fd_ring_of, (ok_ring_of T CP_coefficients C_reduced_with C_ring_from F_ring_of), m_ring_of, F_ring_of.kp, F_ring_of.bindsN (fun _ _ _ _ _ _ us hl => match us, hl with | [_], _ => rfl)⟩
  obtain ⟨fd_lead_of, F_lead_of⟩ := cD.def_ 30 (d := _) rfl
  replace F_lead_of : FnP K "lead_of" s_lead_of (He.ga K "lead_of") fd_lead_of := F_lead_of
  have m_lead_of := He.glo_ok X G (cD.fact 30 (f := .glo "lead_of") rfl)
  have C_lead_of : Cal P w K mg base 11 "lead_of" ps_lead_of (spLO K (He.ga K "Form")) := ⟨_, fd_lead_of, (ok_lead_of T C_ring_of F_lead_of), m_lead_of, F_lead_of.kp, F_lead_of.bindsN (fun _ _ _ _ _ _ us hl => match us, hl with | [_], _ => rfl)⟩
  obtain ⟨fd_forms_with, F_forms_with⟩ := cD.def_ 31 (d := _) rfl
  replace F_forms_with : FnP K "forms_with" s_forms_with (He.ga K "forms_with") fd_forms_with := F_forms_with
  have m_forms_with := He.glo_ok X G (cD.fact 31 (f := .glo "forms_with") rfl)
  have C_forms_with : Cal P w K mg base 8 "forms_with" ps_forms_with (spFW K (He.ga K "Form")) := ⟨_, fd_forms_with, (ok_forms_with T MF CP_content F_forms_with), m_forms_with, F_forms_with.kp, F_forms_with.bindsN (fun _ _ _ _ _ _ us hl => match us, hl with | [_, _], _ => rfl)⟩
  obtain ⟨fd_classes_giving, F_classes_giving⟩ := cD.def_ 32 (d := _) rfl
  replace F_classes_giving : FnP K "classes_giving" s_classes_giving (He.ga K "classes_giving") fd_classes_giving := F_classes_giving
  have m_classes_giving := He.glo_ok X G (cD.fact 32 (f := .glo "classes_giving") rfl)
  have C_classes_giving : Cal P w K mg base 12 "classes_giving" ps_classes_giving (spCG K (He.ga K "Form")) := ⟨_, fd_classes_giving, (ok_classes_giving T CP_coefficients C_check_discriminant C_is_between C_forms_with C_lead_of F_classes_giving), m_classes_giving, F_classes_giving.kp, F_classes_giving.bindsN (fun _ _ _ _ _ _ us hl => match us, hl with | [_, _], _ => rfl)⟩
  have CK_classes_giving : CalK P w K mg base 12 "classes_giving" ps_classes_giving ["number", "discriminant"] swV swV (spCG K (He.ga K "Form")) := ⟨_, fd_classes_giving, (ok_classes_giving T CP_coefficients C_check_discriminant C_is_between C_forms_with C_lead_of F_classes_giving), m_classes_giving, F_classes_giving.kp, sw_binds F_classes_giving rfl fun _ _ _ _ _ _ _ _ => rfl⟩
  obtain ⟨fd_reduced_forms, F_reduced_forms⟩ := cD.def_ 33 (d := _) rfl
  replace F_reduced_forms : FunD K "reduced_forms" "reduced_forms" (defArgs s_reduced_forms) (defBody s_reduced_forms) (defScope s_reduced_forms) [.bl false] [] (He.ga K "reduced_forms") fd_reduced_forms := F_reduced_forms
  have m_reduced_forms := He.glo_ok X G (cD.fact 33 (f := .glo "reduced_forms") rfl)
  obtain ⟨ds_rf, v_rf, b_rf⟩ := F_reduced_forms.binds1 (ps := ps_reduced_forms) 1 0 (by simp) rfl (fun _ _ _ _ _ _ _ us its hu hi => match us, its, hu, hi with | [_], [_], _, _ => ⟨_, rfl, rfl⟩)
  have C_reduced_forms : CalD P w K mg base 8 "reduced_forms" ps_reduced_forms [.bl false] (spRF K (He.ga K "Form")) := ⟨_, fd_reduced_forms, ds_rf, (ok_reduced_forms T MF CP_content C_root_of C_divisors_of C_is_reduced_form F_reduced_forms), m_reduced_forms, F_reduced_forms.kp, b_rf, v_rf⟩
  obtain ⟨fd_class_list, F_class_list⟩ := cD.def_ 34 (d := _) rfl
  replace F_class_list : FnP K "class_list" s_class_list (He.ga K "class_list") fd_class_list := F_class_list
  have m_class_list := He.glo_ok X G (cD.fact 34 (f := .glo "class_list") rfl)
  have C_class_list : Cal P w K mg base 11 "class_list" ps_class_list (spCL K (He.ga K "Form")) := ⟨_, fd_class_list, (ok_class_list T CP_coefficients C_reduced_forms C_ring_of F_class_list), m_class_list, F_class_list.kp, F_class_list.bindsN (fun _ _ _ _ _ _ us hl => match us, hl with | [_], _ => rfl)⟩
  obtain ⟨fd_classes, F_classes⟩ := cD.def_ 35 (d := _) rfl
  replace F_classes : FnP K "classes" s_classes (He.ga K "classes") fd_classes := F_classes
  have m_classes := He.glo_ok X G (cD.fact 35 (f := .glo "classes") rfl)
  have C_classes : Cal P w K mg base 12 "classes" ps_classes (spCls K (He.ga K "Form")) := ⟨_, fd_classes, (ok_classes T C_check_discriminant C_class_list F_classes), m_classes, F_classes.kp, F_classes.bindsN (fun _ _ _ _ _ _ us hl => match us, hl with | [_], _ => rfl)⟩
  obtain ⟨fd_law_d, F_law_d⟩ := cD.def_ 36 (d := _) rfl
  replace F_law_d : FnP K "_law_d" s_law_d (He.ga K "_law_d") fd_law_d := F_law_d
  have m_law_d := He.glo_ok X G (cD.fact 36 (f := .glo "_law_d") rfl)
  have C_law_d : Cal P w K mg base 1 "_law_d" ps_law_d (spLd K) := ⟨_, fd_law_d, (ok_law_d T F_law_d), m_law_d, F_law_d.kp, F_law_d.bindsN (fun _ _ _ _ _ _ us hl => match us, hl with | [_], _ => rfl)⟩
  obtain ⟨fd_law_root, F_law_root⟩ := cD.def_ 37 (d := _) rfl
  replace F_law_root : FnP K "_law_root" s_law_root (He.ga K "_law_root") fd_law_root := F_law_root
  have m_law_root := He.glo_ok X G (cD.fact 37 (f := .glo "_law_root") rfl)
  have C_law_root : Cal P w K mg base 1 "_law_root" ps_law_root spRoot := ⟨_, fd_law_root, (ok_law_root T F_law_root), m_law_root, F_law_root.kp, F_law_root.bindsN (fun _ _ _ _ _ _ us hl => match us, hl with | [_], _ => rfl)⟩
  obtain ⟨fd_law_gcd, F_law_gcd⟩ := cD.def_ 38 (d := _) rfl
  replace F_law_gcd : FnP K "_law_gcd" s_law_gcd (He.ga K "_law_gcd") fd_law_gcd := F_law_gcd
  have m_law_gcd := He.glo_ok X G (cD.fact 38 (f := .glo "_law_gcd") rfl)
  have C_law_gcd : Cal P w K mg base 1 "_law_gcd" ps_law_gcd spGcd := ⟨_, fd_law_gcd, (ok_law_gcd T F_law_gcd), m_law_gcd, F_law_gcd.kp, F_law_gcd.bindsN (fun _ _ _ _ _ _ us hl => match us, hl with | [_, _], _ => rfl)⟩
  obtain ⟨fd_law_places, F_law_places⟩ := cD.def_ 39 (d := _) rfl
  replace F_law_places : FnP K "_law_places" s_law_places (He.ga K "_law_places") fd_law_places := F_law_places
  have m_law_places := He.glo_ok X G (cD.fact 39 (f := .glo "_law_places") rfl)
  have C_law_places : Cal P w K mg base 1 "_law_places" ps_law_places (spPlaces K) := ⟨_, fd_law_places, (ok_law_places T F_law_places), m_law_places, F_law_places.kp, F_law_places.bindsN (fun _ _ _ _ _ _ us hl => match us, hl with | [_], _ => rfl)⟩
  obtain ⟨fd_law_value, F_law_value⟩ := cD.def_ 40 (d := _) rfl
  replace F_law_value : FnP K "_law_value" s_law_value (He.ga K "_law_value") fd_law_value := F_law_value
  have m_law_value := He.glo_ok X G (cD.fact 40 (f := .glo "_law_value") rfl)
  have C_law_value : Cal P w K mg base 2 "_law_value" ps_law_value (spVal K) := ⟨_, fd_law_value, (ok_law_value T C_law_places F_law_value), m_law_value, F_law_value.kp, F_law_value.bindsN (fun _ _ _ _ _ _ us hl => match us, hl with | [_, _], _ => rfl)⟩
  obtain ⟨fd_law_dip, F_law_dip⟩ := cD.def_ 41 (d := _) rfl
  replace F_law_dip : FnP K "_law_dip" s_law_dip (He.ga K "_law_dip") fd_law_dip := F_law_dip
  have m_law_dip := He.glo_ok X G (cD.fact 41 (f := .glo "_law_dip") rfl)
  have C_law_dip : Cal P w K mg base 1 "_law_dip" ps_law_dip spDip := ⟨_, fd_law_dip, (ok_law_dip T F_law_dip), m_law_dip, F_law_dip.kp, F_law_dip.bindsN (fun _ _ _ _ _ _ us hl => match us, hl with | [_, _], _ => rfl)⟩
  obtain ⟨fd_law_is_discriminant, F_law_is_discriminant⟩ := cD.def_ 42 (d := _) rfl
  replace F_law_is_discriminant : FnP K "_law_is_discriminant" s_law_is_discriminant (He.ga K "_law_is_discriminant") fd_law_is_discriminant := F_law_is_discriminant
  have m_law_is_discriminant := He.glo_ok X G (cD.fact 42 (f := .glo "_law_is_discriminant") rfl)
  have C_law_is_discriminant : Cal P w K mg base 2 "_law_is_discriminant" ps_law_is_discriminant spIsD := ⟨_, fd_law_is_discriminant, (ok_law_is_discriminant T C_law_root F_law_is_discriminant), m_law_is_discriminant, F_law_is_discriminant.kp, F_law_is_discriminant.bindsN (fun _ _ _ _ _ _ us hl => match us, hl with | [_], _ => rfl)⟩
  obtain ⟨fd_law_whole, F_law_whole⟩ := cD.def_ 43 (d := _) rfl
  replace F_law_whole : FnP K "_law_whole" s_law_whole (He.ga K "_law_whole") fd_law_whole := F_law_whole
  have m_law_whole := He.glo_ok X G (cD.fact 43 (f := .glo "_law_whole") rfl)
  have C_law_whole : Cal P w K mg base 3 "_law_whole" ps_law_whole spWhole := ⟨_, fd_law_whole, (ok_law_whole T C_law_dip C_law_is_discriminant F_law_whole), m_law_whole, F_law_whole.kp, F_law_whole.bindsN (fun _ _ _ _ _ _ us hl => match us, hl with | [_, _, _], _ => rfl)⟩
  obtain ⟨fd_law_reduced, F_law_reduced⟩ := cD.def_ 44 (d := _) rfl
  replace F_law_reduced : FnP K "_law_reduced" s_law_reduced (He.ga K "_law_reduced") fd_law_reduced := F_law_reduced
  have m_law_reduced := He.glo_ok X G (cD.fact 44 (f := .glo "_law_reduced") rfl)
  have C_law_reduced : Cal P w K mg base 2 "_law_reduced" ps_law_reduced (spLr K) := ⟨_, fd_law_reduced, (ok_law_reduced T C_law_d F_law_reduced), m_law_reduced, F_law_reduced.kp, F_law_reduced.bindsN (fun _ _ _ _ _ _ us hl => match us, hl with | [_], _ => rfl)⟩
  obtain ⟨fd_law_all_reduced, F_law_all_reduced⟩ := cD.def_ 45 (d := _) rfl
  replace F_law_all_reduced : FnP K "_law_all_reduced" s_law_all_reduced (He.ga K "_law_all_reduced") fd_law_all_reduced := F_law_all_reduced
  have m_law_all_reduced := He.glo_ok X G (cD.fact 45 (f := .glo "_law_all_reduced") rfl)
  have C_law_all_reduced : Cal P w K mg base 3 "_law_all_reduced" ps_law_all_reduced (spAR K) := ⟨_, fd_law_all_reduced, (ok_law_all_reduced T C_law_root C_law_gcd C_law_reduced F_law_all_reduced), m_law_all_reduced, F_law_all_reduced.kp, F_law_all_reduced.bindsN (fun _ _ _ _ _ _ us hl => match us, hl with | [_], _ => rfl)⟩
  obtain ⟨fd_law_next, F_law_next⟩ := cD.def_ 46 (d := _) rfl
  replace F_law_next : FnP K "_law_next" s_law_next (He.ga K "_law_next") fd_law_next := F_law_next
  have m_law_next := He.glo_ok X G (cD.fact 46 (f := .glo "_law_next") rfl)
  have C_law_next : Cal P w K mg base 2 "_law_next" ps_law_next (spNext K) := ⟨_, fd_law_next, (ok_law_next T C_law_d C_law_root F_law_next), m_law_next, F_law_next.kp, F_law_next.bindsN (fun _ _ _ _ _ _ us hl => match us, hl with | [_], _ => rfl)⟩
  obtain ⟨fd_law_ring, F_law_ring⟩ := cD.def_ 47 (d := _) rfl
  replace F_law_ring : FnP K "_law_ring" s_law_ring (He.ga K "_law_ring") fd_law_ring := F_law_ring
  have m_law_ring := He.glo_ok X G (cD.fact 47 (f := .glo "_law_ring") rfl)
  have C_law_ring : Cal P w K mg base 3 "_law_ring" ps_law_ring (spLring K) := ⟨_, fd_law_ring, (ok_law_ring T C_law_d C_law_next F_law_ring), m_law_ring, F_law_ring.kp, F_law_ring.bindsN (fun _ _ _ _ _ _ us hl => match us, hl with | [_], _ => rfl)⟩
  obtain ⟨fd_law_leads, F_law_leads⟩ := cD.def_ 48 (d := _) rfl
  replace F_law_leads : FnP K "_law_leads" s_law_leads (He.ga K "_law_leads") fd_law_leads := F_law_leads
  have m_law_leads := He.glo_ok X G (cD.fact 48 (f := .glo "_law_leads") rfl)
  have C_law_leads : Cal P w K mg base 4 "_law_leads" ps_law_leads (spLeads K) := ⟨_, fd_law_leads, (ok_law_leads T C_law_all_reduced C_law_ring F_law_leads), m_law_leads, F_law_leads.kp, F_law_leads.bindsN (fun _ _ _ _ _ _ us hl => match us, hl with | [_], _ => rfl)⟩
  obtain ⟨fd_law_one_of, F_law_one_of⟩ := cD.def_ 49 (d := _) rfl
  replace F_law_one_of : FnP K "_law_one_of" s_law_one_of (He.ga K "_law_one_of") fd_law_one_of := F_law_one_of
  have m_law_one_of := He.glo_ok X G (cD.fact 49 (f := .glo "_law_one_of") rfl)
  have C_law_one_of : Cal P w K mg base 2 "_law_one_of" ps_law_one_of spOne := ⟨_, fd_law_one_of, (ok_law_one_of T C_law_dip F_law_one_of), m_law_one_of, F_law_one_of.kp, F_law_one_of.bindsN (fun _ _ _ _ _ _ us hl => match us, hl with | [_, _], _ => rfl)⟩
  obtain ⟨fd_law_jar, F_law_jar⟩ := cD.def_ 50 (d := _) rfl
  replace F_law_jar : FnP K "_law_jar" s_law_jar (He.ga K "_law_jar") fd_law_jar := F_law_jar
  have m_law_jar := He.glo_ok X G (cD.fact 50 (f := .glo "_law_jar") rfl)
  have C_law_jar : Cal P w K mg base 1 "_law_jar" ps_law_jar (spJar K) := ⟨_, fd_law_jar, (ok_law_jar T F_law_jar), m_law_jar, F_law_jar.kp, F_law_jar.bindsN (fun _ _ _ _ _ _ us hl => match us, hl with | [_, _], _ => rfl)⟩
  obtain ⟨fd_law_has, F_law_has⟩ := cD.def_ 51 (d := _) rfl
  replace F_law_has : FnP K "_law_has" s_law_has (He.ga K "_law_has") fd_law_has := F_law_has
  have m_law_has := He.glo_ok X G (cD.fact 51 (f := .glo "_law_has") rfl)
  have C_law_has : Cal P w K mg base 3 "_law_has" ps_law_has (spHas K) := ⟨_, fd_law_has, (ok_law_has T C_law_d C_law_root C_law_gcd C_law_value F_law_has), m_law_has, F_law_has.kp, F_law_has.bindsN (fun _ _ _ _ _ _ us hl => match us, hl with | [_, _], _ => rfl)⟩
  obtain ⟨fd_law_is_square_rest, F_law_is_square_rest⟩ := cD.def_ 52 (d := _) rfl
  replace F_law_is_square_rest : FnP K "_law_is_square_rest" s_law_is_square_rest (He.ga K "_law_is_square_rest") fd_law_is_square_rest := F_law_is_square_rest
  have m_law_is_square_rest := He.glo_ok X G (cD.fact 52 (f := .glo "_law_is_square_rest") rfl)
  have C_law_is_square_rest : Cal P w K mg base 1 "_law_is_square_rest" ps_law_is_square_rest spSqr := ⟨_, fd_law_is_square_rest, (ok_law_is_square_rest T F_law_is_square_rest), m_law_is_square_rest, F_law_is_square_rest.kp, F_law_is_square_rest.bindsN (fun _ _ _ _ _ _ us hl => match us, hl with | [_, _], _ => rfl)⟩
  obtain ⟨fd_law_right, F_law_right⟩ := cD.def_ 53 (d := _) rfl
  replace F_law_right : FnP K "_law_right" s_law_right (He.ga K "_law_right") fd_law_right := F_law_right
  have m_law_right := He.glo_ok X G (cD.fact 53 (f := .glo "_law_right") rfl)
  have C_law_right : Cal P w K mg base 13 "_law_right" ps_law_right spRight := ⟨_, fd_law_right, (ok_law_right L T EF MF CP_coefficients C_law_whole C_law_dip C_law_leads C_law_has C_classes_giving CK_classes_giving C_law_gcd C_law_is_square_rest C_law_one_of C_law_root C_law_ring C_classes F_law_right), m_law_right, F_law_right.kp, F_law_right.bindsN (fun _ _ _ _ _ _ us hl => match us, hl with | [_], _ => rfl)⟩
  exact (ok_law T C_law_jar C_law_right F_law)
end G41
set_option Elab.async false
set_option linter.all false
set_option maxRecDepth 100000
set_option maxHeartbeats 0
namespace G41
theorem runX (w : PySem.World) : HandSHeadRun.RunEq RwX (PySem.W.view RwX.prog [88]) hkX obX 6000 hnames w :=
  PySem.W.byRow2 "special-get-raises" (P := fun w => HandSHeadRun.RunEq RwX (PySem.W.view RwX.prog [88]) hkX obX 6000 hnames w) runX_f runX_t w
end G41
open PySem PySem.W PySem.Calls PyProof.Rows
theorem PySem.Challenge.cw_formworld_k41_whole_classes_giving_a_num_holds : PySem.Challenge.rw_formworld_k41_whole_classes_giving_a_num.Holds := by
  w_on; o_law
  refine HandSHeadRun.head_any (r := OpenLaw.row PySem.Challenge.rw_formworld_k41_whole_classes_giving_a_num) (q := view (OpenLaw.row PySem.Challenge.rw_formworld_k41_whole_classes_giving_a_num).prog [88]) (H := G41.hkX) (ob := G41.obX) (M := 6000) (loose := G41.hnames)
    (d := HandSHeadRun.topDef (OpenLaw.row PySem.Challenge.rw_formworld_k41_whole_classes_giving_a_num).prog 88) (kwd := []) G41.obX_eq (by kernel_rfl) (fun s => by kernel_rfl) G41.runX (by kernel_rfl) (by kernel_rfl) (by kernel_rfl) (by rfl) (by first | assumption | decide +kernel) (by decide +kernel) ⟨rfl, rfl, rfl, rfl, rfl, by decide +kernel⟩ ?hw ?hc
  case hw => w_witness2
  case hc =>
    refine L2.walk_ofE (l := PySem.Challenge.rw_formworld_k41_whole_classes_giving_a_num) (n := 63) (k := 14) (x := "_law_cells") (CX := L2.CX0) rfl (by decide) (by kernel_rfl) ⟨rfl, by decide, by decide⟩ ?F (fun _ _ _ _ z => z)
    intro w mg fa h Y G hmg0
    obtain ⟨K, KX, c⟩ := Y
    have hmg : mg ("law" : PySem.Str) = some (.ref fa) := by
      have e : (HandSHeadRun.topDef (OpenLaw.row PySem.Challenge.rw_formworld_k41_whole_classes_giving_a_num).prog 88).name = ("law" : PySem.Str) := by kernel_rfl
      rw [← e]
      exact hmg0
    obtain ⟨fd, hb, hF⟩ := G41.facts (P := (PySem.Challenge.rw_formworld_k41_whole_classes_giving_a_num).prog) (w := w) KX G hmg c
    exact ⟨K, fd, G41.spLaw K, KX, hb, fun H a ns hl _ hS => ⟨a, ns, rfl, hS, hl, fun _ => rfl⟩, hF⟩

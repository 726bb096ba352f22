import PyProof.Rows.All
import Wide.All
import OpenK.AllK
import Wide.FinOn
import KE.KExcSuper
import HandS.Words
import HandS.Codes
import HandS.ExcIs
import HandS.ExcField
import HandS.HeadNt
import HandS.HeadHook4
import HandS.HeadWalk
import HandS.Head2
import Wide.Once
import PyProof.EqAt
import PyProof.EqKinds
import PyProof.TupleCall
import HandS.ForExc
import HandS.ExcInit
import HandS.ExcInitHot
import KE.GoesComp
import KE.GoesRaise
import HandS.Comp
import HandS.ForMost
import HandS.Defaults
import HandS.HeadHook1
import HandS.HeadHook2
import HandS.HeadHook3
import HandS.IsInst
import HandS.Flow
import HandS.TupAny
import HandS.TupLe
import HandS.More
import HandS.Property
import HandS.OwnEq
import KE.KDictWalk
import KE.GoesZip
import KE.GoesMore
import KE.GoesEnum
import HandS.SetBool
import HandS.SetFor
import HandS.Strs
import KE.KAssignIn
import HandS.Conv
import HandS.Zip
import HandS.Star
import HandS.SuiteRaise
import HandS.MakeKwOnly
import HandS.LawCells
import HandS.Steps
import HandS.Wide
import HandS.Small
import HandS.RaiseMore
import HandS.Deep
import HandS.Style
import HandS.Lambda
import HandS.EndTab
import PySem.Challenge.RW_keptmeanings_k41_whole_spoilt_plans
set_option Elab.async false
set_option linter.all false
set_option maxRecDepth 100000
set_option maxHeartbeats 4000000
/-! the text by places; what is looked at behind the top -/
namespace Km
open PySem PySem.Spec PyProof.Rows L2
def top (i : Nat) : Stmt := PySem.Challenge.pw_keptmeanings_k41_whole_spoilt_plans.main.body.getD i (.Pass ⟨0, 0, 0, 0⟩)
def signTab : List (Str × Str) := [("number", SX.S [110]), ("given", SX.S []), ("setting", SX.S []), ("column", SX.S [99]), ("kept", SX.S [99]), ("call", SX.S [110, 102]), ("sum", SX.S [102, 102]), ("less", SX.S [102, 102]), ("times", SX.S [102, 102]), ("same", SX.S [102, 102]), ("when", SX.S [102, 102, 102])]
def mostTab : List (Str × Int) := [(SX.S [110], 2), (SX.S [99], 1)]
end Km
namespace KmH
open PySem PySem.Spec PyProof.Rows PySem.HandSPX L2 Km He
abbrev Frag := PySem.W.Frag
abbrev rw0 : PySem.W.OpenLaw := PySem.Challenge.rw_keptmeanings_k41_whole_spoilt_plans
def clsGB (K : Frag) (x : Str) : Bool :=
  eqO (PySem.W.findIn K (.ref (ga K x)) "__class__") (some (some (.builtin "object.__class__"))) && (eqO (PySem.W.specialIn K (.builtin "object.__class__") "__get__") (some (some (.builtin "getset_descriptor.__get__"))) &&
  (decide (PySem.W.takesIn K (.builtin "object.__class__") = some true) && (decide (PySem.W.mroIn K (ga K x) (.type "object") = some true) && decide (PySem.W.kitOne K (.ref (ga K x)) (.ref (ga K x)) = some true))))
def prpB (K : Frag) (C : Addr) (f : Str) : Bool :=
  eqO (PySem.W.findIn K (.ref C) f) (some (some (.ref (ma K C f)))) && (eqO (PySem.W.specialIn K (.ref (ma K C f)) "__get__") (some (some (.builtin "property.__get__"))) && (decide (PySem.W.takesIn K (.ref (ma K C f)) = some true) && (match PySem.W.recIn K (ma K C f) "property" with
    | some (.ref _ :: _) => true
    | _ => false)))
def excCB (K : Frag) (D : Addr) : Bool :=
  eqO (PySem.W.findIn K (.ref D) "__class__") (some (some (.builtin "object.__class__"))) && (eqO (PySem.W.specialIn K (.builtin "object.__class__") "__get__") (some (some (.builtin "getset_descriptor.__get__"))) &&
  (decide (PySem.W.takesIn K (.builtin "object.__class__") = some true) && decide (PySem.W.mroIn K D (.type "object") = some true)))
def supCls (K : Frag) (C : Addr) : Bool := match K.lookup C with
  | some ⟨.type t, _, .cls cd, sl⟩ => (match cd.mro, sl.toList with
    | .ref C' :: bm, [_, _, _, _, some (.builtin n), _] => decide (t = "type") && (decide (C' = C) && (decide (n = "ValueError.__new__") && (!cd.hasDel && (cd.hasDict && refsVE bm))))
    | _, _ => false)
  | _ => false
/-- such an __init__'s function: all but its cell -/
abbrev FnC : Type := Option (Str × Str × Arguments × FuncBody × Scope × Addr × List Str × Value × Addr)
def cellsOf : List (Str × Addr) → List Str
  | [] => []
  | (x, _) :: r => x :: cellsOf r
def fnC (K : Frag) (a : Addr) : FnC := match K.lookup a with
  | some ⟨_, _, .func fd, _⟩ => some (fd.name, fd.qualname, fd.params, fd.body, fd.scope, fd.globals, cellsOf fd.closure, fd.defaults, fd.builtins)
  | _ => none
/-- an own exception class of the text: its name, its field, where its __init__ stands -/
structure SupD where
  name : Str
  fld : Str
  qual : Str
  st : Stmt
def SupD.fa (K : Frag) (d : SupD) : Addr := ma K (ga K d.name) "__init__"
def SupD.val (d : SupD) : FnC := some ("__init__", d.qual, defArgs d.st, .stmts (defBody d.st), defScope d.st, mainGlobals, ["__class__"], .none, builtinsNs)
def supFn (K : Frag) (C f : Addr) (qual file : Str) : Bool := match K.lookup f with
  | some ⟨_, _, .func fd, _⟩ => PySem.W.codeIn K fd.code qual && ((match fd.code with
      | .ref cda => (match K.lookup cda with
        | some ⟨_, _, .fields vs, _⟩ => (match (vs[2]? : Option Value) with
          | some (.str z _) => decide (z = file)
          | _ => false)
        | _ => false)
      | _ => false) && (match fd.closure with
      | [(_, cc)] => (match K.lookup cc with
        | some ⟨_, _, .cell (some (.ref D)), _⟩ => decide (D = C)
        | _ => false)
      | _ => false))
  | _ => false
def supB (K : Frag) (nm fld : Str) : Bool :=
  supCls K (ga K nm) && (eqO (PySem.W.findIn K (.ref (ga K nm)) "__setattr__") (some (some (.builtin "object.__setattr__"))) && (eqO (PySem.W.findIn K (.ref (ga K nm)) fld) (some none) && (eqO (PySem.W.findIn K (.ref (ga K nm)) "__init__") (some (some (.ref (ma K (ga K nm) "__init__")))) &&
  (decide (PySem.W.typeIn K (.ref (ma K (ga K nm) "__init__")) = some (.type "function")) && (PySem.W.keepIn K (.ref (ga K nm)) && (decide (PySem.W.subIn K (.ref (ga K nm)) (.type "BaseException") = some true) && (decide (PySem.W.subIn K (.ref (ga K nm)) (.type "ValueError") = some true) &&
  (decide (PySem.W.typeIn K (.ref (ga K nm)) = some (.type "type")) && (decide (PySem.W.mroIn K (ga K nm) (.ref (ga K nm)) = some true) && (eqO (PySem.W.ks_superIn K (ga K nm) (ga K nm) "__init__") (some (some (.builtin "ValueError.__init__"))) &&
  (eqO (PySem.W.nsIn K cStatics "thirdparty.any") (some none) && eqO (PySem.W.nsIn K mainGlobals "super") (some none))))))))))))
def entAll (K : Frag) : List (Dv × Dv) → List DictEntry → Bool
  | [], [] => true
  | (k, v) :: r, e :: es => relB (k.v K) e.key && (relB (v.v K) e.val && entAll K r es)
  | _, _ => false
def entB (K : Frag) (x : Str) (kvs : List (Dv × Dv)) : Bool := match K.lookup (ga K x) with
  | some ⟨.type c, none, .dict es _, sl⟩ => decide (c = "dict") && (sl.isEmpty && (!(ga K x == sysModules) && entAll K kvs es.toList))
  | _ => false
def gD (x : Str) (i : Nat) : He5.DefA := ⟨fun K => fAd K (x, none), x, x, defArgs (top i), defBody (top i), defScope (top i), [], []⟩
def mD (C m qual : Str) (i j : Nat) : He5.DefA := ⟨fun K => fAd K (C, some m), m, qual, defArgs (inClass (top i) j), defBody (inClass (top i) j), defScope (inClass (top i) j), [], []⟩
def pD (C m qual : Str) (i j : Nat) : He5.DefA := ⟨fun K => He5.wf K (ga K C) "property" m, m, qual, defArgs (inClass (top i) j), defBody (inClass (top i) j), defScope (inClass (top i) j), [], []⟩
def planD : He5.DefA := ⟨fun K => fAd K ("Plan", some "__init__"), "__init__", "Plan.__init__", defArgs (inClass (top 43) 0), defBody (inClass (top 43) 0), defScope (inClass (top 43) 0), [], [("free", .non), ("writers", .non), ("askers", .non)]⟩
def gs1 : List (Str × Nat) := [("is_between", 17), ("count_in", 18), ("trees_in", 19), ("has_numbers_of", 27), ("is_body", 28), ("are_functions", 29), ("is_form_of", 40), ("are_things", 41), ("is_rising", 42), ("read_form", 50), ("lines_of", 51), ("digits_of", 52)]
def gs2 : List (Str × Nat) := [("try_book", 54), ("book_lines", 55), ("read_book", 56), ("try_plan", 57), ("thing_lines", 58), ("read_plan", 59), ("_law_number", 61), ("_law_tree", 62), ("_law_functions", 63), ("_law_some", 64), ("_law_plan", 65), ("_law_text", 66), ("_law_line", 67), ("_law_book_text", 68), ("_law_plan_text", 69)]
def gs3 : List (Str × Nat) := [("_law_read", 70), ("_law_leaves", 71), ("_law_tree_of", 72), ("_law_is_good", 73), ("_law_digits", 74), ("_law_book_bad", 75), ("_law_plan_bad", 76), ("_law_spoilt", 77), ("_law_told", 78), ("_law_lines", 79), ("_law_right", 80), ("law", 81)]
def gs : List (Str × Nat) := gs1 ++ (gs2 ++ gs3)
def ms : List (Str × Str × Str × Nat × Nat) := [("Form", "numbers_of", "Form.numbers_of", 22, 7), ("Form", "__contains__", "Form.__contains__", 22, 21), ("Book", "__len__", "Book.__len__", 30, 4), ("Book", "__eq__", "Book.__eq__", 30, 7), ("Plan", "__eq__", "Plan.__eq__", 43, 10),
  ("Reader", "peek", "Reader.peek", 49, 1), ("Reader", "step", "Reader.step", 49, 2), ("Reader", "expect", "Reader.expect", 49, 3), ("Reader", "digit", "Reader.digit", 49, 4), ("Reader", "whole", "Reader.whole", 49, 5), ("Reader", "led", "Reader.led", 49, 6), ("Reader", "bracket", "Reader.bracket", 49, 7),
  ("Lines", "words", "Lines.words", 53, 1), ("Lines", "fail", "Lines.fail", 53, 2), ("Lines", "take", "Lines.take", 53, 3), ("Lines", "form", "Lines.form", 53, 4), ("Lines", "end", "Lines.end", 53, 5)]
def is_ : List (Str × Str × Nat) := [("Form", "Form.__init__", 22), ("Book", "Book.__init__", 30), ("Reader", "Reader.__init__", 49), ("Lines", "Lines.__init__", 53)]
def ps_ : List (Str × Str × Str × Nat × Nat) := [("Form", "calls", "Form.calls", 22, 8), ("Form", "columns", "Form.columns", 22, 9), ("Form", "reads", "Form.reads", 22, 10), ("Book", "base", "Book.base", 30, 1), ("Book", "settings", "Book.settings", 30, 2), ("Book", "functions", "Book.functions", 30, 3)]
def fn : List He5.DefA := gs.map (fun p => gD p.1 p.2) ++ (ms.map (fun p => mD p.1 p.2.1 p.2.2.1 p.2.2.2.1 p.2.2.2.2) ++ (is_.map (fun p => mD p.1 "__init__" p.2.1 p.2.2 0) ++ (ps_.map (fun p => pD p.1 p.2.1 p.2.2.1 p.2.2.2.1 p.2.2.2.2) ++ [planD])))
def own5 : List Str := ["Form", "Book", "Plan", "Reader", "Lines"]
def globs : List Str := ["SIGNS", "MOST", "LEAVES", "LEADS", "MIDDLES", "MODES", "BadText", "BadBook", "BadPlan", "BadForm", "MeaningError"]
def frees : List Str := ["isinstance", "int", "bool", "str", "tuple", "list", "len", "range", "zip", "enumerate", "sorted", "set", "all", "super", "sum"]
def noats : List (Str × Str) := [("Form", "tree"), ("Book", "parts"), ("Plan", "parts"), ("Reader", "text"), ("Reader", "spot"), ("Lines", "lines"), ("Lines", "is_whole"), ("Lines", "at")]
def intL : List (Str × Int) := [("MOST_FORMS", 12), ("MOST_FUNCTIONS", 3), ("MOST_BODIES", 3), ("MOST_THINGS", 3)]
def exms : List (Str × Str) := [("BadText", "BadText"), ("BadBook", "BadBook"), ("BadPlan", "BadPlan"), ("BadText", "MeaningError")]
def fa : List Fa := own5.map Fa.glo ++ (globs.map Fa.glo ++ (gs.map (fun p => Fa.glo p.1) ++ (frees.map Fa.free ++ (own5.map Fa.cls ++ (own5.map Fa.mkr ++ (noats.map (fun p => Fa.noat p.1 p.2) ++ (intL.map (fun p => Fa.int p.1 p.2) ++ (exms.map (fun p => Fa.exm p.1 p.2 true) ++ ms.map (fun p => Fa.meth p.1 p.2.1)))))))))
def sups : List SupD := [⟨"BadBook", "part", "BadBook.__init__", inClass (top 3) 0⟩, ⟨"BadPlan", "part", "BadPlan.__init__", inClass (top 4) 0⟩, ⟨"BadText", "row", "BadText.__init__", inClass (top 12) 0⟩]
def file0 : Str := rw0.prog.main.file
def dvS (p : Str × Str) : Str × Dv := (p.1, .str p.2)
def dvI (p : Str × Int) : Str × Dv := (p.1, .int p.2)
def leavesL : List (Dv × Dv) := [(.str "given", .str (SX.S [103])), (.str "setting", .str (SX.S [115]))]
def leadsL : List (Dv × Dv) := [(.str "column", .str (SX.S [99])), (.str "kept", .str (SX.S [107])), (.str "call", .str (SX.S [102]))]
def midsL : List (Dv × Dv) := [(.str "sum", .str (SX.S [43])), (.str "less", .str (SX.S [45])), (.str "times", .str (SX.S [42])), (.str "same", .str (SX.S [61]))]
/-- the other facts -/
def ex (K : Frag) : Bool := own5.all (clsGB K) && (ps_.all (fun p => prpB K (ga K p.1) p.2.1) && (sups.all (fun d => KmH.supB K d.name d.fld && supFn K (ga K d.name) (d.fa K) d.qual file0) && (
  valsB K (ga K "SIGNS") (signTab.map dvS) && (valsB K (ga K "MOST") (mostTab.map dvI) && (tupB K "MODES" [.str "kept", .str "again", .str "check"] && (entB K "LEAVES" leavesL && (entB K "LEADS" leadsL && (entB K "MIDDLES" midsL && (
  PySem.W.notFirst K (ga K "Book") (.type "str") && (PySem.W.notFirst K (ga K "Plan") (.type "str") && (decide (PySem.W.kitOne K (.type "str") (.ref (ga K "Book")) = some false) && (decide (PySem.W.kitOne K (.type "str") (.ref (ga K "Plan")) = some false) && (
  xfB K (ga K "BadText") && (xfB K (ga K "BadBook") && (xfB K (ga K "BadPlan") && (excCB K (ga K "BadText") && (decide (PySem.W.kitOne K (.ref (ga K "BadText")) (.ref (ga K "BadText")) = some true) && (
  eqO (PySem.W.findIn K (.ref (ga K "BadText")) "row") (some none) && (eqO (PySem.W.findIn K (.ref (ga K "BadBook")) "part") (some none) && eqO (PySem.W.findIn K (.ref (ga K "BadPlan")) "part") (some none))))))))))))))))))))
end KmH
set_option Elab.async false
set_option linter.all false
set_option maxRecDepth 100000
set_option maxHeartbeats 0
/-! the head's Hook -/
namespace KmH
open PySem PySem.Spec PyProof.Rows PySem.HandSPX L2 Km He
/-! ### what stands behind the top: the objects that are asked -/
def frcK {α : Type} (g : Addr → Option Obj) : List Addr → (Frag → α) → α
  | [], k => k []
  | a :: r, k => match g a with
    | some o => (match emptyTab o with
      | true => frcK g r k
      | false => frcK g r fun K => k ((a, o) :: K))
    | none => frcK g r k
theorem frcK_eq {α : Type} {g : Addr → Option Obj} : ∀ (as : List Addr) (k : Frag → α), frcK g as k = k (frT g as)
  | [], _ => rfl
  | a :: r, k => by
    unfold frcK
    cases e : g a with
    | none =>
      have q : frT g (a :: r) = frT g r := by
        unfold frT frG
        rw [List.filterMap_cons, e]
        rfl
      rw [q]
      exact frcK_eq r k
    | some o =>
      dsimp only
      cases t : emptyTab o with
      | true =>
        have q : frT g (a :: r) = frT g r := by
          unfold frT frG
          rw [List.filterMap_cons, e]
          show List.filter _ ((a, o) :: _) = _
          rw [List.filter_cons]
          simp [t]
        rw [q]
        exact frcK_eq r k
      | false =>
        have q : frT g (a :: r) = (a, o) :: frT g r := by
          unfold frT frG
          rw [List.filterMap_cons, e]
          show List.filter _ ((a, o) :: _) = _
          rw [List.filter_cons]
          simp [t]
        rw [q]
        exact frcK_eq r _
def adr1 : List Addr := [3, 2, 30, 31, 38, 49, 50, 52, 53, 59, 70, 71, 73, 74, 164, 175, 176, 178, 179, 182, 183, 189, 190, 196, 197, 203, 204, 229, 230, 294, 295, 301, 302, 303, 309, 310]
def adr2 : List Addr := [311, 317, 318, 319, 393, 394, 410, 411, 426, 427, 431, 432, 436, 437, 450, 451, 457, 458, 459, 465, 466, 467, 473, 474, 475, 481, 482, 502, 503, 538, 539, 584, 588, 589, 595, 596]
def adr3 : List Addr := [600, 601, 609, 615, 616, 691, 692, 732, 733, 745, 746, 747, 760, 761, 767, 768, 774, 775, 781, 782, 788, 789, 795, 796, 802, 803, 807, 808, 810, 811, 821, 822, 828, 829, 833, 834]
def adr4 : List Addr := [847, 848, 854, 855, 861, 862, 868, 869, 875, 876, 882, 883, 885, 886, 896, 897, 901, 902, 908, 909, 915, 916, 922, 923, 929, 930, 936, 937, 943, 944, 950, 951, 955, 956, 960, 961]
def adr5 : List Addr := [965, 966, 970, 971, 975, 976, 982, 983, 989, 990, 996, 997, 1003, 1004, 1010, 1011, 1015, 1016, 1020, 1021, 1025, 1026, 1032, 1033, 1039, 1040, 1046, 1047, 1053, 1054, 1058, 1059]
def adrs : List Addr := adr1 ++ (adr2 ++ (adr3 ++ (adr4 ++ (adr5))))
def K0 (g : Addr → Option Obj) : Frag := frT g adrs
/-! ### what is looked at -/
def tsH : List Tab := [(fun K => ga K "SIGNS", signTab.map (·.1)), (fun K => ga K "MOST", mostTab.map (·.1))]
def tfH : List Defn := [("_law_right", none)]
abbrev AlH : Type := Bool × List FnW × List FnC × List (Option (List (Option (Str × Int))))
def obsK (g : Addr → Option Obj) (K : Frag) : AlH := ((fa.all fun f => f.ok K) && ((fn.all fun d => d.ok K) && (ex K && tabsB g tfH K)), fn.map fun d => He5.fnA K (d.at_ K), sups.map fun d => fnC K (d.fa K), tsH.map fun t => dicW K (t.1 K))
def valH (w : World) : AlH := (true, fn.map He5.DefA.val, sups.map SupD.val, tsH.map fun t => some (keysIn w.params t.2))
structure SaysH (w : World) (h : Heap) (K : Frag) : Prop where
  fa : (fa.all fun f => f.ok K) = true
  fnk : (fn.all fun d => d.ok K) = true
  ex : ex K = true
  fn : (fn.map fun d => He5.fnA K (d.at_ K)) = fn.map He5.DefA.val
  sup : (sups.map fun d => fnC K (d.fa K)) = sups.map SupD.val
  ts : (tsH.map fun t => dicW K (t.1 K)) = tsH.map fun t => some (keysIn w.params t.2)
  hd : PySem.W.codeHdIn K (cT K ("_law_right", none)).1 (cT K ("_law_right", none)).2 = true
  out : K.lookup (cT K ("_law_right", none)).2 = none
  empty : h.get? (cT K ("_law_right", none)).2 = some { cls := .none, data := .fields #[] }
theorem saysH_of {w : World} {h : Heap} (e : obsK h.get? (K0 h.get?) = valH w) : SaysH w h (K0 h.get?) := by
  have e1 := congrArg (fun z : AlH => z.1) e
  have e2 := congrArg (fun z : AlH => z.2.1) e
  have e3 := congrArg (fun z : AlH => z.2.2.1) e
  have e4 := congrArg (fun z : AlH => z.2.2.2) e
  obtain ⟨h1, e1⟩ := ba (show ((KmH.fa.all fun f => f.ok (K0 h.get?)) && ((KmH.fn.all fun d => d.ok (K0 h.get?)) && (KmH.ex (K0 h.get?) && tabsB h.get? tfH (K0 h.get?)))) = true from e1)
  obtain ⟨h2, e1⟩ := ba e1
  obtain ⟨h3, h4⟩ := ba e1
  obtain ⟨h5, h6⟩ := ba (List.all_eq_true.mp h4 ("_law_right", none) List.mem_cons_self)
  have key : ∃ o, h.get? (cT (K0 h.get?) ("_law_right", none)).2 = some o ∧ emptyTab o = true := by
    cases q : h.get? (cT (K0 h.get?) ("_law_right", none)).2 with
    | none =>
      rw [q] at h6
      cases h6
    | some o =>
      rw [q] at h6
      exact ⟨o, rfl, h6⟩
  obtain ⟨o, q, z⟩ := key
  refine ⟨h1, h2, h3, e2, e3, e4, h5, ?_, by rw [q, emptyTab_eq z]⟩
  exact frT_none q z
def hkH : PySem.W.Hook where
  α := AlH
  obs := fun s => obsK s.heap.get? (K0 s.heap.get?)
  val := fun w => valH w
  says := fun w h => ∃ K : Frag, K.In h ∧ SaysH w h K
  of := fun _ _ e => ⟨_, frT_in, saysH_of e⟩
  keeps := fun _ _ _ ⟨K, hK, c⟩ k => ⟨K, PySem.W.Frag.In.keeps hK k, ⟨c.fa, c.fnk, c.ex, c.fn, c.sup, c.ts, c.hd, c.out, k _ _ c.empty⟩⟩
def obH (s : PySem.W.SharedT) : AlH := frcK (HandSHeadRun.getT s) adrs fun K => obsK (HandSHeadRun.getT s) K
theorem obH_eq (s : PySem.W.SharedT) : obH s = hkH.obs s.abs := by
  unfold obH
  rw [frcK_eq, show HandSHeadRun.getT s = s.abs.heap.get? from funext (HandSHeadRun.getT_eq s)]
  rfl
/-! ### the names -/
def loose1 : List Str := ["_wall", "__name__", "MeaningError", "BadBook", "BadPlan", "BadForm", "BadNumber", "BadWording", "BadSetting", "BadFunction", "BadThing", "BadFree", "BadText", "SIGNS", "MOST", "MOST_FORMS", "is_between", "count_in", "trees_in", "tuples_below", "tree_of", "Form", "comes_to", "MOST_FUNCTIONS", "MOST_BODIES", "has_numbers_of", "is_body", "are_functions", "Book", "told_by"]
def loose2 : List Str := ["check_book", "check_function", "is_wording", "check_wording", "check_setting", "MODES", "MOST_THINGS", "is_form_of", "are_things", "is_rising", "Plan", "check_thing", "LEAVES", "LEADS", "MIDDLES", "Reader", "read_form", "lines_of", "digits_of", "Lines", "try_book", "book_lines", "read_book", "try_plan", "thing_lines", "read_plan", "_law_number", "_law_tree", "_law_functions", "_law_some"]
def loose3 : List Str := ["_law_plan", "_law_text", "_law_line", "_law_book_text", "_law_plan_text", "_law_read", "_law_leaves", "_law_tree_of", "_law_is_good", "_law_digits", "_law_book_bad", "_law_plan_bad", "_law_spoilt", "_law_told", "_law_lines", "_law_right"]
def loose : List Str := loose1 ++ (loose2 ++ (loose3))
abbrev RH : PySem.W.OpenRow := PySem.W.OpenLaw.row rw0
end KmH
set_option Elab.async false
set_option linter.all false
set_option maxRecDepth 100000
set_option maxHeartbeats 0
/-! the top's run -/
namespace KmH
open PySem PySem.Spec PyProof.Rows
theorem run_f (w : World) : HandSHeadRun.RunEq RH (PySem.W.view RH.prog [81]) hkH obH 12000 loose (w.withFollow "special-get-raises" false) := by
  intro os
  kernel_rfl
end KmH
set_option Elab.async false
set_option linter.all false
set_option maxRecDepth 100000
set_option maxHeartbeats 0
/-! the top's run -/
namespace KmH
open PySem PySem.Spec PyProof.Rows
theorem run_t (w : World) : HandSHeadRun.RunEq RH (PySem.W.view RH.prog [81]) hkH obH 12000 loose (w.withFollow "special-get-raises" true) := by
  intro os
  kernel_rfl
end KmH
set_option Elab.async false
set_option linter.all false
set_option maxRecDepth 100000
set_option maxHeartbeats 4000000
/-! an own exception class over ValueError (through own classes) whose __init__ says super().__init__(x); self.f = x -/
namespace Km
open PySem PySem.W PySem.Calls PyProof.Rows PySem.HandSPX
/-- the text of such an __init__ -/
def supA (fld : Str) (p1 p2 : Pos) : Arguments := { posonlyargs := [], args := [{ arg := "self", annotation := none, pos := p1 }, { arg := fld, annotation := none, pos := p2 }], vararg := none, kwonlyargs := [], kw_defaults := [], kwarg := none, defaults := [] }
def supB (fld : Str) (a1 a2 a3 a4 a5 a6 b1 b2 b3 b4 : Pos) : List Stmt :=
  [.Expr (.Call (.Attribute (.Call (.Name "super" a1) [] [] a2) "__init__" a3) [.Name fld a4] [] a5) a6, .Assign [.Attribute (.Name "self" b1) fld b2] (.Name fld b3) b4]
def supS (fld : Str) : Scope := { kind := .function, names := [("self", .local), (fld, .local), ("__class__", .free), ("super", .globalImplicit)], isGenerator := false, isCoroutine := false, more := [] }
/-- what the name fld must be -/
structure FldOk (fld : Str) : Prop where
  self : (fld == ("self" : Str)) = false
  cls : (("__class__" : Str) == fld) = false
  sup : (("super" : Str) == fld) = false
  dbg : (fld == ("__debug__" : Str)) = false
  bind : ∀ (qual : Str) (p1 p2 : Pos) (body : List Stmt) (kV doc pm cda ct : Value) (an : Option Addr) (cc : Addr) (u v : Value), bindArgs (ksFn "__init__" qual (supA fld p1 p2) body (supS fld) .none kV doc pm an cda ct cc) ⟨[u, v], []⟩ = pure ([(("self" : Str), u), (fld, v)] : List (Str × Value))
theorem fld_row : FldOk "row" := ⟨by decide, by decide, by decide, by decide, fun _ _ _ _ _ _ _ _ _ _ _ _ _ => by first | rfl | with_unfolding_all rfl⟩
theorem fld_part : FldOk "part" := ⟨by decide, by decide, by decide, by decide, fun _ _ _ _ _ _ _ _ _ _ _ _ _ => by first | rfl | with_unfolding_all rfl⟩
/-- what the written part says of such a class, at C; its __init__ at fI, the cell of __class__ at cc -/
structure SupTxt (P : Program) (K : Frag) (mg : Str → Option Value) (nm fld qual : Str) (C fI : Addr) : Prop where
  ok : FldOk fld
  gC : mg nm = some (.ref C)
  cls : ∃ nm q N bs bm sn sub ab col dd k0 k1 k2 k3 k5, K.lookup C = some (excClassObj nm q C N bs bm true sn sub ab col dd k0 k1 k2 k3 k5 "ValueError.__new__") ∧ refsVE bm = true
  sa : findIn K (.ref C) "__setattr__" = some (some (.builtin "object.__setattr__"))
  noN : findIn K (.ref C) fld = some none
  iC : findIn K (.ref C) "__init__" = some (some (.ref fI))
  tC : typeIn K (.ref fI) = some (.type "function")
  kC : keepIn K (.ref C) = true
  exC : subIn K (.ref C) (.type "BaseException") = some true
  veC : subIn K (.ref C) (.type "ValueError") = some true
  tyC : typeIn K (.ref C) = some (.type "type")
  mrC : mroIn K C (.ref C) = some true
  al : ks_superIn K C C "__init__" = some (some (.builtin "ValueError.__init__"))
  opq : nsIn K cStatics "thirdparty.any" = some none
  sup : nsIn K mainGlobals "super" = some none
  top : (P.main.scope.names.lookup ("super" : Str)).isSome = false
  fn : ∃ (oc kV doc pm : Value) (od an : Option Addr) (cda cc : Addr) (ct : Value) (osl : Array (Option Value)) (p1 p2 a1 a2 a3 a4 a5 a6 b1 b2 b3 b4 : Pos) (ccl : Value) (cdd : Option Addr) (vs : Array Value) (ccs : Array (Option Value)) (tf : Tok) (cl : Value) (cld : Option Addr) (csl : Array (Option Value)),
    K.lookup fI = some ⟨oc, od, .func (ksFn "__init__" qual (supA fld p1 p2) (supB fld a1 a2 a3 a4 a5 a6 b1 b2 b3 b4) (supS fld) .none kV doc pm an (.ref cda) ct cc), osl⟩ ∧ codeIn K (.ref cda) qual = true ∧
      K.lookup cda = some ⟨ccl, cdd, .fields vs, ccs⟩ ∧ vs[2]? = some (.str P.main.file tf) ∧ K.lookup cc = some ⟨cl, cld, .cell (some (.ref C)), csl⟩ ∧
      (∀ env : Env, ∃ pl : Sem Bool, eval (.Call (.Attribute (.Call (.Name "super" a1) [] [] a2) "__init__" a3) [.Name fld a4] [] a5) env = (do
        let ov ← attributeBase (.Call (.Name "super" a1) [] [] a2) "__init__" env (eval (.Call (.Name "super" a1) [] [] a2) env)
        standAt a3.atName
        let (f, first) ← holding [ov] (getMethod ov "__init__" pl)
        callWith a5 f first (backTo a5 (starEach [.Name fld a4] env)) [])) ∧
      (∀ env : Env, swapsWith (.Call (.Attribute (.Call (.Name "super" a1) [] [] a2) "__init__" a3) [.Name fld a4] [] a5) none a6.line env = pure false) ∧
      (∀ env : Env, swapsWith (.Name fld b3) (some (.Attribute (.Name "self" b1) fld b2)) b4.line env = pure false)
section
variable {fld : Str} (ok : FldOk fld)
include ok
theorem FldOk.look : (supS fld).names.lookup fld = some .local := by
  show List.lookup fld [(("self" : Str), NameKind.local), (fld, .local), ("__class__", .free), ("super", .globalImplicit)] = some .local
  simp only [List.lookup, ok.self, beq_self_eq_true]
theorem FldOk.lookC : (supS fld).names.lookup ("__class__" : Str) = some .free := by
  show List.lookup ("__class__" : Str) [(("self" : Str), NameKind.local), (fld, .local), ("__class__", .free), ("super", .globalImplicit)] = some .free
  have e : (("__class__" : Str) == "self") = false := by decide
  simp only [List.lookup, e, ok.cls, beq_self_eq_true]
theorem FldOk.lookS : (supS fld).names.lookup ("super" : Str) = some .globalImplicit := by
  show List.lookup ("super" : Str) [(("self" : Str), NameKind.local), (fld, .local), ("__class__", .free), ("super", .globalImplicit)] = some .globalImplicit
  have e : (("super" : Str) == "self") = false := by decide
  have e2 : (("super" : Str) == "__class__") = false := by decide
  simp only [List.lookup, e, e2, ok.sup, beq_self_eq_true]
omit ok in
theorem lookSelf : (supS fld).names.lookup ("self" : Str) = some .local := by
  show List.lookup ("self" : Str) [(("self" : Str), NameKind.local), (fld, .local), ("__class__", .free), ("super", .globalImplicit)] = some .local
  simp only [List.lookup, beq_self_eq_true]
end
/-- what __init__ leaves of a fresh exception at x -/
structure InitEnd (h h' : Heap) (x C dx t1 : Addr) (fld : Str) (v : Value) : Prop where
  keep : ∀ b o, b ≠ x → h.get? b = some o → h'.get? b = some o
  obj : h'.get? x = some { cls := .ref C, dict := some dx, data := .fields #[.ref t1, .none, .none, .none, .bool false, .none] }
  dbig : h.objs.size ≤ dx
  dne : dx ≠ x
  ns : h'.Ns1 dx (fun y => if y = fld then some v else none)
theorem one_size (v : Value) : [v].length ≤ sizeLine := by
  rw [sizeLine_eq]
  exact (by decide : 1 ≤ 16777216)
section
variable {P : Program} {w : World} {A : Around} {E : Value → Shared → Prop} {R : Result → Shared → Prop} {s : Shared} {K : Frag} {mg mb : Str → Option Value} {C fI : Addr} {nm fld qual : Str}
/-- the bound __init__ called -/
theorem call_bw {h : Heap} {g : Array GenState} {d : Drawn} {t : Nat} {os : OsState} {nm q : Str} {C N : Addr} {bs bm : List Value} {hdct : Bool} {sn : List Str} {sub : List Value} {ab : Bool} {col : Option Bool} {dd : Option Addr} {k0 k1 k2 k3 k5 : Option Value} {u e t0 : Addr} {rest : List Value} {Q : Value → Shared → Prop}
    (hC : h.get? C = some (excClassObj nm q C N bs bm hdct sn sub ab col dd k0 k1 k2 k3 k5 "ValueError.__new__")) (he : h.get? e = some (excO C t0)) (hu : h.get? u = some (kxs_mw "ValueError.__init__" e)) (hrest : rest.length ≤ sizeLine)
    (hq : ∀ h' t1, (∀ b o, b ≠ e → h.get? b = some o → h'.get? b = some o) → h'.get? e = some (excO C t1) → Q .none ⟨h', g, d, t, os⟩) :
    wpAny (model P w) A (call (.ref u) rest) Q E ⟨h, g, d, t, os⟩ := by
  refine wpAny_call (codeAny_of_tree ?_)
  show wpAny _ A.in1 (callAny (.ref u) ⟨rest, []⟩) _ _ _
  simp only [callAny]
  refine wpAny_bind (wpAny_load hu ?_)
  simp only [kxs_mw, show (Value.type "method-wrapper" == Value.type "method" || Value.type "method-wrapper" == Value.type "builtin_function_or_method" || Value.type "method-wrapper" == Value.type "method-wrapper") = true by decide, if_true]
  refine KFB.if_so (by decide) ?_
  refine wpAny_bind (check_bound_init F.excBase_ValueError.toExcCallFacts hC he rfl ?_)
  refine wpAny_bind (wpAny_pure (wpAny_pure ?_))
  refine ⟨plainId_quiet F.excBase_ValueError.init.plain _, codeAny_builtin F.excBase_ValueError.initEntry ?_⟩
  exact exc_init_tree (cls := .ref C) (t0 := t0) (dv := none) (c2 := .none) (c3 := .none) (b4 := .bool false) he hrest (fun h' k e' t' => hq h' _ k e')
theorem sup_init (T : SupTxt P K mg nm fld qual C fI) {x t0 : Addr} {v : Value} (X : K.In s.heap) (G : s.heap.Ns mainGlobals mg) (B : s.heap.Ns builtinsNs mb) (hb : ∀ x : Str, x ≠ "__name__" → mb x = bootBuiltins x) (hlim : s.heap.NoLimit)
    (hx : s.heap.get? x = some (excO C t0)) (hnx : K.lookup x = none) (hroom : A.depth < recursionLimit)
    (hq : ∀ h' tk dx t1, InitEnd s.heap h' x C dx t1 fld v → R (.ok (.ret .none)) { s with heap := h', toks := tk }) :
    codeAny (model P w) A (.call (.ref fI) ⟨[.ref x, v], []⟩) R s := by
  obtain ⟨oc, kV, doc, pm, od, an, cda, cc, ct, osl, p1, p2, a1, a2, a3, a4, a5, a6, b1, b2, b3, b4, ccl, cdd, vs, ccs, tf, cl, cld, csl, ho, hcd, hcda, hvs, hcc, hcall, hsw1, hsw2⟩ := T.fn
  obtain ⟨nm, q, N, bs, bm, sn, sub, ab, col, dd, k0, k1, k2, k3, k5, hC, hbm⟩ := T.cls
  have hcl : clsIn K C = some { name := nm, bases := bs, mro := .ref C :: bm, ns := N, qualname := q, hasDict := true, slotNames := sn, subclasses := sub, abstract := ab, collection := col, hasDel := false } := by unfold clsIn; rw [hC] <;> rfl
  refine ks_codeAny_call_defAt (fd := ksFn "__init__" qual (supA fld p1 p2) (supB fld a1 a2 a3 a4 a5 a6 b1 b2 b3 b4) (supS fld) .none kV doc pm an (.ref cda) ct cc) (body := supB fld a1 a2 a3 a4 a5 a6 b1 b2 b3 b4) (binds := [("self", .ref x), (fld, v)]) hroom (X _ _ ho) rfl hlim (codeRec_of X hcd) rfl
    (BindsTo.of_eq (T.ok.bind _ _ _ _ _ _ _ _ _ _ _ _ _)) (fun y hy => ?_) (fun y hy => ?_) (fun h₁ hns hk₁ => ?_) rfl rfl rfl
  · have hy2 : y ∈ [(("self" : Str), NameKind.local), (fld, .local), ("__class__", .free), ("super", .globalImplicit)] := hy
    simp only [List.mem_cons, List.not_mem_nil, or_false] at hy2
    rcases hy2 with e | e | e | e <;> (rw [e]; intro z; cases z)
  · rcases List.mem_cons.mp hy with e | hy
    · rw [e]; exact lookSelf
    · rcases List.mem_cons.mp hy with e | hy
      · rw [e]; exact T.ok.look
      · cases hy
  · have X₁ : K.In h₁ := X.keeps hk₁
    have hx₁ := hk₁ _ _ hx
    have vself : (fun y => ([("self", .ref x), (fld, v)] : List (Str × Value)).reverse.lookup y) "self" = some (Value.ref x) := by
      show List.lookup ("self" : Str) [(fld, v), (("self" : Str), Value.ref x)] = some (.ref x)
      have e : (("self" : Str) == fld) = false := by
        have z := T.ok.self
        rw [beq_eq_false_iff_ne] at z ⊢
        exact z.symm
      simp only [List.lookup, e, beq_self_eq_true]
    have vfld : (fun y => ([("self", .ref x), (fld, v)] : List (Str × Value)).reverse.lookup y) fld = some v := by
      show List.lookup fld [(fld, v), (("self" : Str), Value.ref x)] = some v
      simp only [List.lookup, beq_self_eq_true]
    have hL : ∀ b o, s.heap.get? b = some o → b ≠ s.heap.objs.size := fun b o e => Nat.ne_of_lt (Heap.lt_size e)
    obtain ⟨pl, hpl⟩ := hcall (callEnv (ksFn "__init__" qual (supA fld p1 p2) (supB fld a1 a2 a3 a4 a5 a6 b1 b2 b3 b4) (supS fld) .none kV doc pm an (.ref cda) ct cc) s.heap.objs.size fI)
    refine ks_wpAt_execs_cons (ks_wpAt_Expr_any (ks_wpAt_MethodCall (pl := pl) ?_ hpl) rfl (hsw1 _))
    refine ks_wpAt_super_base (f := fI) (cc := cda) T.ok.lookS T.ok.lookC (by decide) rfl (X₁ _ _ ho) rfl rfl rfl (X₁ _ _ hcda) rfl hvs (beq_self_eq_true _) T.top ?_
    refine ks_loadName_global rfl T.ok.lookS (loadGlobal_builtin (G.keeps hk₁) (mg_none_of X G T.sup) (B.keeps hk₁) ((hb _ (by decide +kernel)).trans (by decide +kernel)) ⟨rfl, ?_⟩)
    refine wpAny_loadName_free rfl T.ok.lookC rfl ⟨_, X₁ _ _ hcc, rfl⟩ ?_
    refine wpAny_loadName_local rfl lookSelf hns vself ?_
    refine ks_wpAny_isType_cls (X₁ _ _ hC) rfl ⟨rfl, ?_⟩
    refine ks_wpAny_call_super (X₁ _ _ hC) rfl hx₁ rfl (fun c e => by cases e) (looks_mroIn X₁ T.mrC) (fun h₂ e₂ k₂ => ?_)
    -- super().__init__, bound
    have X₂ : K.In h₂ := X₁.keeps k₂
    have hx₂ := k₂ _ _ hx₁
    have xC : x ≠ C := fun z => by
      have y := X _ _ hC
      rw [← z, hx] at y
      cases y
    have hI : Looks (model P w) h₂ (isInstance (.ref x) (.type "ValueError")) true := (show Looks (model P w) h₂ (typeOf (.ref x)) (.ref C) from fun A Q E s k q => wpAny_typeOf_ref (k _ _ hx₂) q).andThen (looks_subIn X₂ T.veC)
    have al := T.al
    unfold ks_superIn at al
    rw [hcl] at al
    refine kxs_getMethod (l₀ := .ref C :: bm) kxs_ValueError e₂ (looks_opaque X₂ T.opq) (fun A Q E s k q => wpAny_bind ((looks_clsIn X₂ hcl) A _ E s k (wpAny_pure q))) rfl X₂ al hI xC (by decide) ?_
    have hx₃ : (h₂.push (kxs_mw "ValueError.__init__" x)).get? x = some (excO C t0) := Heap.get?_push_of_some _ hx₂
    have hu₃ : (h₂.push (kxs_mw "ValueError.__init__" x)).get? h₂.objs.size = some (kxs_mw "ValueError.__init__" x) := Heap.get?_push_size _ rfl
    have k₃ : ∀ b o, h₁.get? b = some o → (h₂.push (kxs_mw "ValueError.__init__" x)).get? b = some o := fun b o e => Heap.get?_push_of_some _ (k₂ b o e)
    refine kxs_callWith (i := "ValueError.__init__") (x := x) rfl (evalArgs_plain ?_)
    refine Calls.spliced_cons (wpAny_Name (wpAny_loadName_local rfl T.ok.look (hns.at fun o q => k₃ _ o q) vfld (Calls.spliced_nil ?_)) T.ok.dbg)
    refine ⟨hu₃, ?_⟩
    refine call_bw (h := h₂.push (kxs_mw "ValueError.__init__" x)) (hC := Heap.get?_push_of_some _ (X₂ _ _ hC)) hx₃ hu₃ (one_size v) fun h₄ t1 k₄ hx₄ => ?_
    -- self.f = f
    have xL : s.heap.objs.size ≠ x := (hL x _ hx).symm
    have k₅ : ∀ b o, b ≠ x → s.heap.get? b = some o → h₄.get? b = some o := fun b o hb e => k₄ b o hb (k₃ b o (hk₁ b o e))
    have X₄ : K.In h₄ := fun a o e => k₅ a o (fun z => by rw [z, hnx] at e; cases e) (X a o e)
    have hns₄ : h₄.Ns s.heap.objs.size (fun y => ([("self", .ref x), (fld, v)] : List (Str × Value)).reverse.lookup y) := hns.at fun o q => k₄ _ o xL (k₃ _ o q)
    refine ks_wpAt_execs_cons (ks_wpAt_Assign_Attr ?_ (hsw2 _))
    refine wpAt_of_wpAny (wpAny_Name (wpAny_loadName_local rfl T.ok.look hns₄ vfld ?_) T.ok.dbg)
    refine wpAny_Name (wpAny_loadName_local rfl lookSelf hns₄ vself ?_) (by decide)
    refine set_plain X₄ (ox := excO C t1) (od := none) ⟨hx₄, rfl, rfl, trivial⟩ T.sa ?_
    refine exc_osa X₄ hx₄ hcl (show refsVE (.ref C :: bm) = true from hbm) rfl T.noN (fun h₅ tk₅ dx k₆ dn dne hx₅ hn₅ => ?_)
    refine wpAt_of_wpAny (wpAny_execs_nil ?_)
    have big : s.heap.objs.size ≤ dx := by
      obtain ⟨o, _, _, e, _⟩ := id hns₄
      exact Nat.le_of_lt (Nat.lt_of_lt_of_le (Heap.lt_size e) dn)
    exact hq h₅ tk₅ dx t1 ⟨fun b o hb e => k₆ b o hb (k₅ b o hb e), hx₅, big, dne, hn₅⟩
/-- a made exception -/
structure OwnMade (h h' : Heap) (e C d : Addr) (fld : Str) (v : Value) : Prop where
  keep : ∀ b o, h.get? b = some o → h'.get? b = some o
  new : h.objs.size ≤ e
  obj : ∃ t1 : Addr, h'.get? e = some ({ cls := .ref C, dict := some d, data := .fields #[.ref t1, .none, .none, .none, .bool false, .none] } : Obj)
  dbig : h.objs.size ≤ d
  dne : d ≠ e
  ns : h'.Ns1 d (fun y => if y = fld then some v else none)
theorem sup_made (T : SupTxt P K mg nm fld qual C fI) {v : Value} (X : K.In s.heap) (G : s.heap.Ns mainGlobals mg) (B : s.heap.Ns builtinsNs mb) (hb : ∀ x : Str, x ≠ "__name__" → mb x = bootBuiltins x) (hlim : s.heap.NoLimit) (hroom : A.depth + 1 < recursionLimit)
    (hq : ∀ h' tk e d, OwnMade s.heap h' e C d fld v → R (.ok (.ret (.ref e))) { s with heap := h', toks := tk }) :
    codeAny (model P w) A (.call (.ref C) ⟨[v], []⟩) R s := by
  obtain ⟨nm, q, N, bs, bm, sn, sub, ab, col, dd, k0, k1, k2, k3, k5, hC, hbm⟩ := T.cls
  obtain ⟨hp, g, dr, tk, os⟩ := s
  have k : ∀ b o, hp.get? b = some o → ((hp.push (kdv_tup [v])).push (excO C hp.objs.size)).get? b = some o := fun b o e => Heap.get?_push_of_some _ (Heap.get?_push_of_some _ e)
  have hget : ((hp.push (kdv_tup [v])).push (excO C hp.objs.size)).get? (hp.objs.size + 1) = some (excO C hp.objs.size) := by heap_get
  have hnx : K.lookup (hp.objs.size + 1) = none := by
    cases e : K.lookup (hp.objs.size + 1) with
    | none => rfl
    | some o =>
      have z : hp.get? (hp.objs.size + 1) = some o := X _ _ e
      exact absurd (Nat.lt_of_succ_lt (Heap.lt_size z)) (Nat.lt_irrefl _)
  refine call_own F.excBase_ValueError (fun X => refsVE_contains X bm hbm) (X _ _ hC) (looks_findIn X T.iC) (fun self => bind_fn X self T.tC) (one_size v) ?_
  refine sup_init (s := ⟨(hp.push (kdv_tup [v])).push (excO C hp.objs.size), g, dr, tk, os⟩) T (X.keeps k) (G.keeps k) (B.keeps k) hb (hlim.keeps k) hget hnx ?_ fun h' tk' dx t1 E => ?_
  · show A.depth + 1 < recursionLimit
    exact hroom
  · have old : ∀ b o, hp.get? b = some o → h'.get? b = some o := fun b o e => E.keep b o (Nat.ne_of_lt (Nat.lt_succ_of_lt (Heap.lt_size e))) (k b o e)
    have z : hp.objs.size + 1 + 1 ≤ dx := by
      have q := E.dbig
      first
        | (simpa only [Heap.size_push] using q)
        | exact q
        | (rw [Heap.size_push, Heap.size_push] at q; exact q)
    exact ⟨rfl, hq h' tk' (hp.objs.size + 1) dx ⟨old, Nat.le_succ _, ⟨t1, E.obj⟩, Nat.le_trans (Nat.le_trans (Nat.le_succ _) (Nat.le_succ _)) z, E.dne, E.ns⟩⟩
end
end Km

namespace Km
open PySem PySem.Spec PyProof.Rows L2
theorem relO_one {v : V} {v' : Value} {fld : Str} (r : RelV v v') (f : Str) : RelO (List.lookup f [(fld, v)]) (if f = fld then some v' else none) := by
  by_cases hw : f = fld
  · subst hw
    rw [if_pos rfl]
    have q : List.lookup f [(f, v)] = some v := by simp [List.lookup]
    rw [q]
    exact r
  · rw [if_neg hw]
    have qw : (f == fld) = false := by simpa using hw
    have q2 : List.lookup f [(fld, v)] = none := by simp [List.lookup, qw]
    rw [q2]
    trivial
/-- C(e), such a class: its exception's dict holds the field -/
def tMkSup (C : Addr) (fld : Str) (ta : TA) : L2.St → Hp → XK → Prop := fun σ H Q => ta σ H fun vs H1 => ∃ v, vs = [v] ∧ ∀ d, H1 d = none → Q (.ref C) (some d) (upd H1 d (.xd [(fld, v)]))
section
variable {X : Cx} {nm fld qual : Str} {C fI : Addr}
theorem pmkN_sup {a : Expr} {ta : TA} {p pos : Pos} (T : SupTxt X.prog X.K X.mg nm fld qual C fI) (hr : X.A.depth + 1 < recursionLimit) (ha : PA X [a] ta) (hg : Gl X nm) (hdb : (nm == ("__debug__" : Str)) = false := by decide)
    (he : starEach (a :: []) X.env = (false, eval a X.env) :: starEach [] X.env := by rfl) (hpl : (backTo pos (starEach [] X.env)).any (·.1) = false := by rfl) :
    L2N.PMk X (.Call (.Name nm p) [a] [] pos) (tMkSup C fld ta) := by
  intro pins s σ H Q I h
  refine wpAny_Call_Name_kw (ld_glob I hg T.gC ?_ hdb)
  refine PySem.W.callWith_K (h₀ := X.base) I.ok.mod.kin T.kC (thn (ha.run pos pins s σ H _ I h) fun us s1 hh => ?_) he hpl
  obtain ⟨vs, H1, I1, r1, v, ev, q1⟩ := hh
  subst ev
  refine ⟨I1.kIn, ?_⟩
  cases r1 with
  | cons rv rn =>
    rename_i v' us'
    cases rn
    show wpAny _ _ (call (.ref C) [v']) _ _ _
    have hlim := I1.nolimit
    obtain ⟨mb, b1, b2⟩ := I1.mod.blt
    have G1 := I1.mod.glob.keeps I1.bk
    have B1 := b1.keeps I1.bk
    obtain ⟨hp, g, dr, tk, os⟩ := s1
    refine wpAny_call (sup_made T I1.kIn G1 B1 b2 hlim hr fun h' tk' e d M => ?_)
    show L2N.MkP X pins σ Q (.ref e) ⟨h', g, dr, tk', os⟩
    obtain ⟨t1, hoe⟩ := M.obj
    have hns := M.ns
    obtain ⟨G', g1, g2⟩ := restrict h' fun b => decide (b ≠ e)
    have gk : ∀ b, b ≠ e → G'.get? b = h'.get? b := fun b hb => g1 b (decide_eq_true hb)
    have ge : G'.get? e = none := g2 e (by simp)
    have old : ∀ b o, hp.get? b = some o → G'.get? b = some o := fun b o q => (gk b (Nat.ne_of_lt (Nat.lt_of_lt_of_le (Heap.lt_size q) M.new))).trans (M.keep b o q)
    have ob : ObjOk X.prog X.w (upd H1 d (.xd [(fld, v)])) G' d (.xd [(fld, v)]) :=
      ⟨_, hns.at (fun o q => (gk d M.dne).trans q), fun f => relO_one rv f⟩
    have J : Inv X pins σ (upd H1 d (.xd [(fld, v)])) ⟨G', g, dr, tk', os⟩ := I1.laid (t' := tk') old M.dbig ob
    refine ⟨e, _, _, ⟨G', g, dr, tk', os⟩, _, .ref C, some d, rfl, J, fun b o q => ?_, ge, hoe, ⟨rfl, rfl, fun vs hv => by cases hv; rfl⟩, rfl, rfl, ?_, rfl, I1.bare, raises_own T.exC T.tyC, q1 d (I1.hok.fresh M.dbig)⟩
    · by_cases hb : b = e
      · have q' : G'.get? b = some o := q
        rw [hb, ge] at q'; cases q'
      · exact (gk b hb).symm.trans q
    · rw [upd_ne (Ne.symm M.dne)]
      exact I1.hok.fresh M.new
theorem pmk_ofN {e : Expr} {t : L2.St → Hp → XK → Prop} (h : L2N.PMk X e t) : L2.PMk X e t := fun pins s σ H Q I q =>
  thn (h pins s σ H Q I q) fun u s' ⟨a, oe, vs, sI, H', cls, d, e1, J, k, hne, ha, hz, hd, h1, na, os, ag, r, w⟩ => ⟨a, oe, vs, sI, H', cls, d, e1, J, k, hne, ha, hz.zc, hd, h1, na, os, ag, r, w⟩
/-- raise C(e) -/
def tRaiseSup (C : Addr) (fld : Str) (W : WX) (ta : TA) : TS := fun _ σ H => tMkSup C fld ta σ H fun cls d H' => W cls d σ H'
theorem ps_raiseSup {a : Expr} {ta : TA} {W : WX} {p pos pos2 : Pos} (hc : X.calm = true) (T : SupTxt X.prog X.K X.mg nm fld qual C fI) (hr : X.A.depth + 1 < recursionLimit) (tk : L2.Takes X W) (ha : PA X [a] ta) (hg : Gl X nm) (hdb : (nm == ("__debug__" : Str)) = false := by decide)
    (he : starEach (a :: []) X.env = (false, eval a X.env) :: starEach [] X.env := by rfl) (hpl : (backTo pos (starEach [] X.env)).any (·.1) = false := by rfl) :
    PS X (.Raise (some (.Call (.Name nm p) [a] [] pos)) none pos2) (tRaiseSup C fld W ta) := L2.ps_raise hc tk (pmk_ofN (pmkN_sup T hr ha hg hdb he hpl))
/-- .. its context is None -/
theorem ps_raiseSupN {a : Expr} {ta : TA} {W : WX} {p pos pos2 : Pos} (hc : X.calm = true) (T : SupTxt X.prog X.K X.mg nm fld qual C fI) (hr : X.A.depth + 1 < recursionLimit) (tk : L2N.Takes X W) (ha : PA X [a] ta) (hg : Gl X nm) (hdb : (nm == ("__debug__" : Str)) = false := by decide)
    (he : starEach (a :: []) X.env = (false, eval a X.env) :: starEach [] X.env := by rfl) (hpl : (backTo pos (starEach [] X.env)).any (·.1) = false := by rfl) :
    PS X (.Raise (some (.Call (.Name nm p) [a] [] pos)) none pos2) (tRaiseSup C fld W ta) := L2N.ps_raise hc tk (pmkN_sup T hr ha hg hdb he hpl)
/-- .. in an except suite -/
theorem ps_raiseSupH {a : Expr} {ta : TA} {W : WX} {p pos pos2 : Pos} (hc : L2H.HotC X) (T : SupTxt X.prog X.K X.mg nm fld qual C fI) (hr : X.A.depth + 1 < recursionLimit) (tk : L2.Takes X W) (ha : PA X [a] ta) (hg : Gl X nm) (hdb : (nm == ("__debug__" : Str)) = false := by decide)
    (he : starEach (a :: []) X.env = (false, eval a X.env) :: starEach [] X.env := by rfl) (hpl : (backTo pos (starEach [] X.env)).any (·.1) = false := by rfl) :
    PS X (.Raise (some (.Call (.Name nm p) [a] [] pos)) none pos2) (tRaiseSup C fld W ta) := L2H.ps_raiseH hc tk (pmkN_sup T hr ha hg hdb he hpl)
end
end Km
set_option Elab.async false
set_option linter.all false
set_option maxRecDepth 100000
set_option maxHeartbeats 4000000
/-! a list comprehension whose element is a call that may raise -/
namespace Km
open PySem PySem.Spec PyProof.Rows L2 PySem.HandSPX
theorem tracedZ_sameBut {h h' base : Heap} {e C : Addr} {Z : Obj → Prop} {fl : Value} {m : Str → Option Value} (x : TracedZ h base e Z fl) (hn : h.Ns C m) (hs : Heap.SameBut C h h') : TracedZ h' base e Z fl := by
  obtain ⟨oe, vs, T, oT, ts, he, hz, hd, h1, hnT, hTe, hT, hdT, h3⟩ := x
  obtain ⟨oC, es, ep, hoC, hdC, _⟩ := hn
  have ne : e ≠ C := fun q => by rw [q, hoC] at he; cases he; rw [hdC] at hd; cases hd
  have nT : T ≠ C := fun q => by rw [q, hoC] at hT; cases hT; rw [hdC] at hdT; cases hdT
  exact ⟨oe, vs, T, oT, ts, (hs.2 e ne).trans he, hz, hd, h1, hnT, hTe, (hs.2 T nT).trans hT, hdT, h3⟩
section
variable {M : Model} {A : Around} {E : Value → Shared → Prop} {s' : Shared} {base : Heap} {env cenv : Env} {outer l : List Env} {e L : Addr} {Z : Obj → Prop} {m : Str → Option Value}
theorem compFails_heldZ (hf : cenv.frame = some L) (hbC : base.get? cenv.locals = none) (hn : s'.heap.Ns cenv.locals m) (hh : HeldZ base l e Z L s'.heap)
    (hQ : ∀ h', HeldZ base l e Z L h' → (∀ b o, s'.heap.get? b = some o → b ≠ cenv.locals → (∀ vs, o.data ≠ .fields vs) → ∃ sl, h'.get? b = some { o with slots := sl }) → E (.ref e) { s' with heap := h' }) :
    CompFails M A E cenv (.ref e) s' := by
  refine ⟨m, hn, fun h₂ m₂ hn₂ hs₂ => ?_⟩
  obtain ⟨b1, b0, f1, t1⟩ := hh
  have b2 : base.StaysIn h₂ := fun b o hb => (hs₂.2 b fun q => by rw [q, hbC] at hb; cases hb).trans (b1 b o hb)
  have f2 : h₂.FunFrames base l := Heap.FunFrames.sameBut hs₂ hn₂ f1
  have t2 := tracedZ_sameBut t1 hn hs₂
  obtain ⟨oe, vs, T, oT, ts, he, hz, hd, h1, r⟩ := id t2
  unfold PySem.passOn
  refine wpAny_bind (wpAny_field he hd h1 ?_)
  rw [if_neg (show ¬ ((Value.ref T == Value.none) = true) from by simp)]
  rw [hf]
  have fin : wpAny M A (setFlight (.ref e) (some L)) (fun _ s4 => wpAny M A (throw (.ref e) : Sem Value) (fun _ _ => False) E s4) E { s' with heap := h₂ } :=
    setFlight_anyZ (fr := some L) b2 f2 t2 fun h₃ b3 f3 t3 k3 => wpAny_throw (hQ h₃ ⟨b3, b0, f3, t3⟩ fun b o hb hbL hnf => k3 b o ((hs₂.2 b hbL).trans hb) hnf)
  first
    | exact wpAny_bind (wpAny_pure (wpAny_bind fin))
    | exact wpAny_bind fin
/-- out of a call in the element -/
theorem noted_flyingZ (hZ : Steady Z) (hfr : A.frames = some (env :: outer)) (hcf : cenv.frame = env.frame) (hf : env.frame = some L) (hbC : base.get? cenv.locals = none) (hn : s'.heap.Ns cenv.locals m) (hfl : FlyingZ base (env :: outer) e Z s'.heap)
    (hQ : ∀ h', HeldZ base (env :: outer) e Z L h' → (∀ b o, s'.heap.get? b = some o → b ≠ cenv.locals → (∀ vs, o.data ≠ .fields vs) → ∃ sl, h'.get? b = some { o with slots := sl }) → E (.ref e) { s' with heap := h' }) :
    notedBy M A cenv (CompFails M A E cenv) (.ref e) s' := by
  show wpAny M A (noteFrame (.ref e) cenv) _ _ s'
  rw [noteFrame_env _ hcf]
  refine looks_onZ hZ hfr hf hfl fun h' hH hk => ?_
  refine compFails_heldZ (l := env :: outer) (L := L) (hcf.trans hf) hbC (hn.upToSlots hk) hH fun h'' hH' hk' => hQ h'' hH' fun b o hb hbC' hnf => ?_
  obtain ⟨sl, e1⟩ := hk b o hb hnf
  obtain ⟨sl2, e2⟩ := hk' b _ e1 hbC' hnf
  exact ⟨sl2, e2⟩
end
/-- the context of a block whose element may raise -/
abbrev blkE (X : Cx) (s : Shared) (H : Hp) (scope : Scope) (cenv : Env) (fp : List Addr) (xe : Value → Shared → Prop) : Cx := { X.blk s H scope cenv fp with xe := xe }
section
variable {X : Cx}
/-- an exception that a call in the block's element let out reaches what the def wants of exceptions -/
theorem blk_passes {pins pins' : List (Addr × Obj)} {σ σb : L2.St} {H3 H : Hp} {s3 s s' : Shared} {scope : Scope} {ce : Env} {fp : List Addr} {xe : Value → Shared → Prop} {E : XK} {u : Value}
    (hs : X.stack = X.env :: X.outer) (hf : X.env.frame = some X.env.locals) (tk : L2.Takes X (fun cls d _ H => E cls d H)) (I3 : Inv X pins σ H3 s3) (hcf : ce.frame = X.env.frame) (hcL : ce.locals = s3.heap.objs.size)
    (hfp : ∀ b ∈ fp, (b ∈ X.ex ∨ X.s_0.heap.objs.size ≤ b) ∧ b ≠ X.env.locals ∧ (∀ x c, X.env.cells.lookup x = some c → c ≠ b) ∧ ∀ p ∈ X.pn ++ pins, p.1 ≠ b)
    (I : Inv (blkE X s3 H3 scope ce fp xe) pins' σb H s) (c : L2.CX X.prog X.w X.stack H s E u s') : notedBy (model X.prog X.w) X.A ce (CompFails (model X.prog X.w) X.A X.xe ce) u s' := by
  obtain ⟨a, B, H', cls, d, rfl, fl, hok, ub, na, os, ag, hE⟩ := c
  have hfr : X.A.frames = some (X.env :: X.outer) := by rw [I3.ok.frames, hs]
  have un : Un (frs X.stack) fp H3 H s3.heap s.heap := I.base
  have hC0 : H ce.locals = none := I.free
  obtain ⟨m, hnC, _⟩ := I.loc
  have hnC : s.heap.Ns ce.locals m := hnC
  obtain ⟨oC, esC, epC, hoC, hdC, _⟩ := id hnC
  have frC : ce.locals ∉ frs X.stack := fun hm => by
    obtain ⟨_, o, ho, _⟩ := I3.stack.mem hm
    have z := Heap.lt_size ho
    rw [hcL] at z
    exact Nat.lt_irrefl _ z
  have neC : ∀ b o, s3.heap.get? b = some o → b ≠ ce.locals := fun b o e => by rw [hcL]; exact Nat.ne_of_lt (Heap.lt_size e)
  have hC1 : H' ce.locals = none := ub.free _ _ hoC hC0
  have st : B.StaysIn s'.heap := fl.1
  have hBC : B.get? ce.locals = some oC := ub.keep _ _ hoC hC0 frC
  have hide : ∀ b o, b ≠ ce.locals → B.get? b = some o → (PySem.W.hideAll B [ce.locals]).get? b = some o := fun b o hb e => PySem.W.hideAll_get _ e (by simpa using hb)
  have hideC : (PySem.W.hideAll B [ce.locals]).get? ce.locals = none := PySem.W.hideAll_none _ (by simp)
  have hideN : ∀ b, B.get? b = none → (PySem.W.hideAll B [ce.locals]).get? b = none := fun b e => by
    cases q : (PySem.W.hideAll B [ce.locals]).get? b with
    | none => rfl
    | some o =>
      have z := PySem.W.of_hideAll _ q
      rw [e] at z; cases z
  generalize hB' : PySem.W.hideAll B [ce.locals] = B' at hide hideC hideN
  have ofB' : ∀ b o, B'.get? b = some o → B.get? b = some o := fun b o e => by rw [← hB'] at e; exact PySem.W.of_hideAll _ e
  have fl' : FlyingZ B' (X.env :: X.outer) a (Zc cls d) s'.heap := by
    rw [← hs]
    obtain ⟨f1, f2, f3, oe, vs, T, oT, ts, he, hz, hd, h1, hnT, r⟩ := fl
    exact ⟨fun b o e => f1 b o (ofB' b o e), hideN _ f2, funFrames_none f3 fun L hL => hideN _ (f3.mem hL).1, oe, vs, T, oT, ts, he, hz, hd, h1, hideN _ hnT, r⟩
  have hn' : s'.heap.Ns ce.locals m := hnC.at fun o q => by
    rw [hoC] at q; cases q
    exact st _ _ hBC
  -- the state without the exception and the block
  obtain ⟨G, g1, g2⟩ := restrict s'.heap fun b => (B'.get? b).isSome || decide (b ∈ frs X.stack)
  have gB : ∀ b o, B'.get? b = some o → G.get? b = some o := fun b o e => by
    rw [g1 b (by simp [e])]
    exact st b o (ofB' b o e)
  have gF : ∀ b, b ∈ frs X.stack → G.get? b = s'.heap.get? b := fun b hb => g1 b (by simp [hb])
  have og : ∀ b o, G.get? b = some o → s'.heap.get? b = some o ∧ ((B'.get? b).isSome = true ∨ b ∈ frs X.stack) := fun b o e => by
    cases q : ((B'.get? b).isSome || decide (b ∈ frs X.stack)) with
    | false => rw [g2 b q] at e; cases e
    | true =>
      rw [g1 b q] at e
      exact ⟨e, by simpa [Bool.or_eq_true] using q⟩
  have nb : ∀ b o, G.get? b = some o → b ∉ frs X.stack → B'.get? b = some o := fun b o e hb => by
    obtain ⟨e', h⟩ := og b o e
    rcases h with h | h
    · obtain ⟨o', q⟩ := Option.isSome_iff_exists.mp h
      have z := st b o' (ofB' b o' q)
      rw [e'] at z; cases z
      exact q
    · exact absurd h hb
  have hokG : HOk X.prog X.w H' G := fun b o q => by
    refine (hok b o q).stay (fun c v hc e => gB _ _ (hide c v (fun z => ?_) e)) (fun _ e => e) fun _ _ e => e
    rcases hc with hc | hc
    · rw [← hc, z, hC1] at q; cases q
    · rw [z, hC1] at hc; cases hc
  have J : Inv X pins σ H' { s with heap := G, gens := s'.gens, drawn := s'.drawn, toks := s'.toks } := by
    refine I3.call' (ch := fp) (show s.os = s3.os from I.os) ⟨fun b o e n hb hx => ?_, fun b o e n hb hx => ?_, fun b o e n hx => ?_, fun b o e hx => ?_, fun b xs e => ub.tups b xs (un.tups b xs e), fun b o u e => ub.frzs b o u (un.frzs b o u e), fun b ps e => ?_⟩ hokG ag hfp
    · exact gB _ _ (hide b o (neC b o e) (ub.keep b o (un.keep b o e n hb hx) (un.free b o e n hx) hb))
    · obtain ⟨sl, q⟩ := un.slot b o e n hb hx
      obtain ⟨sl2, q2⟩ := ub.slot b _ q hb
      exact ⟨sl2, by rw [gF b hb]; exact q2⟩
    · obtain ⟨o', q⟩ := un.there b o e hx
      exact ub.free b o' q (un.free b o e n hx)
    · obtain ⟨o', q⟩ := un.there b o e hx
      by_cases hb : b ∈ frs X.stack
      · obtain ⟨sl2, q2⟩ := ub.slot b _ q hb
        exact ⟨_, by rw [gF b hb]; exact q2⟩
      · obtain ⟨o2, q2⟩ := ub.there b o' q hb
        exact ⟨o2, gB _ _ (hide b o2 (neC b o e) q2)⟩
    · obtain ⟨m1, e1⟩ := un.tbls b ps e
      obtain ⟨m2, e2⟩ := ub.tbls b _ e1
      exact ⟨m1 ++ m2, by rw [e2, Array.append_assoc]⟩
  refine noted_flyingZ Zc.steady hfr hcf hf hideC hn' fl' fun h' hh k => tk _ _ ?_
  refine ⟨a, B', _, pins, σ, H', cls, d, rfl, J, nb, fun b o e hnf => ?_, .inr (.inr (by rw [hs]; exact hh)), na, os, ag, hE⟩
  have hbC : b ≠ ce.locals := fun z => by
    rw [z] at e
    obtain ⟨_, h⟩ := og _ _ e
    rcases h with h | h
    · rw [hideC] at h; cases h
    · exact frC h
  exact k b o (og b o e).1 hbC hnf
theorem pe_lcX {elt tg iter : Expr} {ifs : List Expr} {scope : Scope} {own : List (Str × Nat)} {pos : Pos} {wi : TI} {g : TG} {tt : TT} {te : TE} {E : XK} (hst : X.stack = X.env :: X.outer) (hfr : X.env.frame = some X.env.locals) (tk : L2.Takes X (fun cls d _ H => E cls d H))
    (hc : X.calm = true) (hN : X.N.Nodup) (hi : PI X tg iter wi) (ok : BlkOk X.N X.env.scope scope own)
    (hg : ∀ (s : Shared) (H : Hp) (C : Addr) (cl : List (Str × Addr)) (fp : List Addr), PG (X.blk s H scope (compEnvC scope cl C X.env) fp) tg g) (ht : ∀ (s : Shared) (H : Hp) (C : Addr) (cl : List (Str × Addr)) (fp : List Addr), PTs (X.blk s H scope (compEnvC scope cl C X.env) fp) ifs tt)
    (he : ∀ (s : Shared) (H : Hp) (C : Addr) (cl : List (Str × Addr)) (fp : List Addr) (xe : Value → Shared → Prop), Passes (L2.CX X.prog X.w) (blkE X s H scope (compEnvC scope cl C X.env) fp xe) E → PE (blkE X s H scope (compEnvC scope cl C X.env) fp xe) elt te) (hs : ∀ x, foldedSetIterable iter X.env x = pure x := by intro _; rfl) :
    PE X (.ListComp elt [⟨tg, iter, ifs, 0⟩] scope pos) (tLc wi g tt te (own.map (·.2))) := by
  refine ⟨fun pins s σ H Q I h => ?_⟩
  rw [eval_ListComp]
  have hfree : ∀ y ∈ scope.names, y.2 = .free → ∃ c, X.env.cells.lookup y.1 = some c := fun y hy e => by
    rcases ok.free y hy e with k | k
    · exact I.ok.has _ (.inl k)
    · exact I.ok.has _ (.inr k)
  refine comprehension_at (use := none) rfl hs (closure_ok hfree) ok.kind (fun y hy e => by rw [ok.uniq y hy, e])
    (thn (hi.run pins s σ H _ I h) fun xv s1 hx => thn hx fun itv s2 h2 => ?_)
  obtain ⟨it, fp, tn, J, H2, e, I2, T, st2, f2, q⟩ := h2
  subst e
  refine wpAny_newObj_type (newEnv_comp ?_) (by show 0 ≤ sizeLine; decide)
  generalize hD : s2.heap.objs.size = D
  have hDn : H2 D = none := I2.hok.fresh (Nat.le_of_eq hD)
  obtain ⟨W, ⟨m0, w0⟩, turn⟩ := q D hDn
  generalize hs3 : ({ s2 with heap := s2.heap.push { cls := .type "list", data := .seq ([] : List Value).toArray } } : Shared) = s3
  have I3 : Inv X pins σ (upd H2 D (.lst [])) s3 := by
    rw [← hs3]
    refine I2.laid (t' := s2.toks) (fun b o e => Heap.get?_push_of_some _ e) (Nat.le_of_eq hD) ⟨Nat.zero_le _, [], 0, .nil, ?_⟩
    rw [← hD]
    exact Heap.get?_push_size _ rfl
  have h3 : s3.heap = s2.heap.push { cls := .type "list", data := .seq ([] : List Value).toArray } := by rw [← hs3]
  have sz : ∀ b ∈ fp, b < s2.heap.objs.size := fun b hb => by
    obtain ⟨o, e, _⟩ := T.obj _ _ st2 b hb
    exact Heap.lt_size e
  have f3 : ∀ b ∈ fp, FpOk X pins (upd H2 D (.lst [])) b ∧ b < s3.heap.objs.size := fun b hb => by
    have hlt := sz b hb
    refine ⟨⟨?_, (f2 b hb).2⟩, by rw [h3, Heap.size_push]; exact Nat.lt_succ_of_lt hlt⟩
    rw [upd_ne (by rw [← hD]; exact Nat.ne_of_lt hlt)]
    exact (f2 b hb).1
  have hfp : ∀ b ∈ fp, (b ∈ X.ex ∨ X.s_0.heap.objs.size ≤ b) ∧ b ≠ X.env.locals ∧ (∀ x c, X.env.cells.lookup x = some c → c ≠ b) ∧ ∀ p ∈ X.pn ++ pins, p.1 ≠ b :=
    fun b hb => ⟨(f3 b hb).1.2.2.2.1, (f3 b hb).1.2.1, (f3 b hb).1.2.2.2.2.1, (f3 b hb).1.2.2.2.2.2⟩
  have st3 : tn 0 s3.heap := T.keep _ _ _ st2 fun b _ o e => by rw [h3]; exact Heap.get?_push_of_some _ e
  have I4 := block_start I3 ok hN f3
  have pg := hg s3 (upd H2 D (.lst [])) s3.heap.objs.size (cellsFrom (s3.heap.objs.size + 1) scope.names (cloFrom X.env.cells scope.names [])) fp
  have pt := ht s3 (upd H2 D (.lst [])) s3.heap.objs.size (cellsFrom (s3.heap.objs.size + 1) scope.names (cloFrom X.env.cells scope.names [])) fp
  have pe := he s3 (upd H2 D (.lst [])) s3.heap.objs.size (cellsFrom (s3.heap.objs.size + 1) scope.names (cloFrom X.env.cells scope.names [])) fp
    (notedBy (model X.prog X.w) X.A (compEnvC scope (cellsFrom (s3.heap.objs.size + 1) scope.names (cloFrom X.env.cells scope.names [])) s3.heap.objs.size X.env) (CompFails (model X.prog X.w) X.A X.xe (compEnvC scope (cellsFrom (s3.heap.objs.size + 1) scope.names (cloFrom X.env.cells scope.names [])) s3.heap.objs.size X.env)))
    (fun pins' σb Hb sb eb sb' Ib cb => blk_passes hst hfr tk I3 rfl rfl hfp Ib cb)
  show codeAny _ _ (.compStart (.ListComp elt [⟨tg, iter, ifs, 0⟩] scope pos) 0 (.ref it) (.ref D) (compEnvC scope (cellsFrom (s3.heap.objs.size + 1) scope.names (cloFrom X.env.cells scope.names [])) s3.heap.objs.size X.env)) (compEnds (model X.prog X.w) X.A X.xe none (EP X pins σ Q) (.ref D) (compEnvC scope (cellsFrom (s3.heap.objs.size + 1) scope.names (cloFrom X.env.cells scope.names [])) s3.heap.objs.size X.env)) { s3 with heap := pushCells (s3.heap.push { cls := .type "dict", data := .dict #[] }) scope.names }
  have nfp : ∀ b ∈ fp, (upd H2 D (.lst [])) b = none := fun b hb => (f3 b hb).1.1
  generalize hce : compEnvC scope (cellsFrom (s3.heap.objs.size + 1) scope.names (cloFrom X.env.cells scope.names [])) s3.heap.objs.size X.env = ce at I4 pg pt pe ⊢
  have cL : ce.locals = s3.heap.objs.size := by subst hce; rfl
  generalize hH3 : upd H2 D (.lst []) = H3 at I3 I4 pg pt pe w0 nfp f3
  generalize hs4 : ({ s3 with heap := pushCells (s3.heap.push { cls := .type "dict", data := .dict #[] }) scope.names } : Shared) = s4 at I4 ⊢
  have st4 : tn 0 s4.heap := T.keep _ _ _ st3 fun b _ o e => by rw [← hs4]; exact pushCells_keeps _ _ _ _ (Heap.get?_push_of_some _ e)
  have stat : ∀ {σ' : L2.St} {H' : Hp} {s' : Shared}, Inv (X.blk s3 H3 scope ce fp) [] σ' H' s' → (∀ b ∈ fp, H' b = none) → ∀ b ∈ fp, FpOk (X.blk s3 H3 scope ce fp) [] H' b := fun {σ' H' s'} I' hn b hb =>
    ⟨hn b hb, (I'.ok.exf b hb).1, I'.ok.exfs b hb, .inl hb, fun x c e => (I'.ok.exf b hb).2 x c e, fun p hp => absurd (show p ∈ ([] : List (Addr × Obj)) ++ [] from hp) (by simp)⟩
  have loop : codeAny (model X.prog X.w) X.A (.compLoop (.ListComp elt [⟨tg, iter, ifs, 0⟩] scope pos) 0 (.ref it) (.ref D) ce) (compEnds (model X.prog X.w) X.A X.xe none (EP X pins σ Q) (.ref D) ce) s4 := by
    refine compLoop_any (fun n s' => ∃ i H', Inv (X.blk s3 H3 scope ce fp) [] (wipe σ (own.map (·.2))) H' s' ∧ tn i s'.heap ∧ (∀ b ∈ fp, H' b = none) ∧ W i n H') ?_ m0 ⟨0, H3, I4, st4, nfp, w0⟩
    rintro n s5 ⟨i, H5, I5, st5, n5, w5⟩
    rcases turn i n H5 w5 with ⟨stop, qq⟩ | ⟨go, Nx, hNx, step⟩
    · have td := T.done (X.blk s3 H3 scope ce fp) rfl rfl rfl hc i [] s5 _ H5 (fun _ _ => False) I5 (stat I5 n5) st5 stop
      refine thnF td fun r s6 ⟨hr, I6⟩ => ?_
      subst hr
      have I7 : Inv X pins σ H5 s6 := I3.call' (ch := fp) I6.os I6.base I6.hok I6.bare hfp
      have nC : H5 s3.heap.objs.size = none := by
        have z : H5 ce.locals = none := I6.free
        rw [cL] at z
        exact z
      obtain ⟨m, hn, _⟩ := I6.loc
      have hn : s6.heap.Ns ce.locals m := hn
      refine ⟨m, hn, fun h'' sb => ?_⟩
      rw [cL] at sb
      obtain ⟨f0, f1, f2, f3, f4, f5⟩ := I3.fpOk (H' := H5) (Nat.le_refl _) nC
      exact ⟨.ref D, H5, I7.turned (t' := s6.toks) (fun b o hb e => (sb.2 b hb).trans e) f0 f1 f3 f4 f5, rfl, qq⟩
    · have ti := T.item (X.blk s3 H3 scope ce fp) rfl rfl rfl hc i [] s5 _ H5 (fun _ _ => False) I5 (stat I5 n5) st5 go
      refine thnF ti fun r s6 ⟨u, hr, h6⟩ => ?_
      subst hr
      refine thnF h6 fun _ s7 ⟨x, H7, I7, r7, y7, st7, n7⟩ => ?_
      have I7' := I7.pinned (stat I7 n7) (T.obj _ _ st7)
      refine thnF (pg.run _ s7 _ H7 x u _ I7' r7 (step x H7 y7)) fun _ s8 ⟨σ8, H8, I8, hw8, q8⟩ => ?_
      refine thnF (pt.run _ s8 σ8 H8 _ I8 q8) fun b s9 ⟨H9, I9, q9⟩ => ?_
      have fin : ∀ {s' : Shared} {H' : Hp}, Inv (X.blk s3 H3 scope ce fp) ([] ++ pinsAt fp s7.heap) σ8 H' s' → Nx H' → ∃ m, m < n ∧ ∃ i H', Inv (X.blk s3 H3 scope ce fp) [] (wipe σ (own.map (·.2))) H' s' ∧ tn i s'.heap ∧ (∀ b ∈ fp, H' b = none) ∧ W i m H' := fun {s' H'} I' nx => by
        obtain ⟨m', hm, w'⟩ := hNx H' nx
        have pin' : ∀ b ∈ fp, ∀ o, s7.heap.get? b = some o → s'.heap.get? b = some o ∧ H' b = none := fun b hb o e =>
          let z := I'.pin (b, o) (List.mem_append_right _ (List.mem_append_right _ (mem_pinsAt hb e)))
          ⟨z.1, z.2.1⟩
        have hl : (wipe σ (own.map (·.2))).length = σ8.length := by rw [← hw8, wipe_length]
        refine ⟨m', hm, i + 1, H', (I'.unpinned (pins := [])).weak hl (fun j v e => ?_), T.keep _ _ _ st7 fun b hb o e => (pin' b hb o e).1, fun b hb => ?_, w'⟩
        · rw [← hw8] at e
          exact (wipe_some e).1
        · obtain ⟨o, e, _⟩ := T.obj _ _ st7 b hb
          exact (pin' b hb o e).2
      cases b with
      | false =>
        simp only [Bool.false_eq_true, if_false] at q9 ⊢
        exact fin I9 q9
      | true =>
        simp only [if_true] at q9 ⊢
        refine thn (pe.run _ s9 σ8 H9 _ (I9.wish _) q9) fun z s10 ⟨yv, H10, I10, r10, acc, hD10, hz10, nx⟩ => ?_
        exact app_ok (X := X.blk s3 H3 scope ce fp) (I10.unwish (X := X.blk s3 H3 scope ce fp)) hD10 hz10 r10 fun s11 I11 => fin I11 nx
  exact codeAny_compStart_list loop (T.self X.A 0 _ _ _ st4 loop)
end
end Km
/-! plain Lean: trees, the reader of a tree, lines of books and plans -/
set_option autoImplicit false
set_option maxRecDepth 10000
namespace Km
inductive Op where | sum | less | times | same
  deriving DecidableEq
inductive Tr where
  | num (n : Nat) | given | setting | col (n : Nat) | kept (n : Nat) | call (n : Nat) (a : Tr) | bin (o : Op) (a b : Tr) | whn (t a b : Tr)
  deriving DecidableEq
namespace Tr
/-- how many forms stand in it -/
def size : Tr → Nat
  | call _ a => 1 + a.size
  | bin _ a b => 1 + a.size + b.size
  | whn t a b => 1 + t.size + a.size + b.size
  | _ => 1
def depth : Tr → Nat
  | call _ a => 1 + a.depth
  | bin _ a b => 1 + max a.depth b.depth
  | whn t a b => 1 + max t.depth (max a.depth b.depth)
  | _ => 1
/-- all trees in it, itself first -/
def parts : Tr → List Tr
  | call n a => call n a :: a.parts
  | bin o a b => bin o a b :: (a.parts ++ b.parts)
  | whn t a b => whn t a b :: (t.parts ++ (a.parts ++ b.parts))
  | t => [t]
theorem size_pos (t : Tr) : 1 ≤ t.size := by cases t <;> simp only [size] <;> omega
theorem depth_pos (t : Tr) : 1 ≤ t.depth := by cases t <;> simp only [depth] <;> omega
theorem depth_le (t : Tr) : t.depth ≤ t.size := by
  induction t with
  | call n a ih => simp only [depth, size]; omega
  | bin o a b i1 i2 => simp only [depth, size]; omega
  | whn t a b i1 i2 i3 => simp only [depth, size]; omega
  | _ => simp only [depth, size]; omega
theorem parts_length (t : Tr) : t.parts.length = t.size := by
  induction t with
  | call n a ih => simp only [parts, size, List.length_cons, ih]; omega
  | bin o a b i1 i2 => simp only [parts, size, List.length_cons, List.length_append, i1, i2]; omega
  | whn t a b i1 i2 i3 => simp only [parts, size, List.length_cons, List.length_append, i1, i2, i3]; omega
  | _ => rfl
/-- its numbers are those that a form may have -/
def wf : Tr → Bool
  | num n => decide (n ≤ 2)
  | col n => decide (n ≤ 1)
  | kept n => decide (n ≤ 1)
  | call n a => decide (n ≤ 2) && a.wf
  | bin _ a b => a.wf && b.wf
  | whn t a b => t.wf && (a.wf && b.wf)
  | _ => true
end Tr
/-! ### the reader -/
def opOf (c : Nat) : Option Op := if c = 43 then some .sum else if c = 45 then some .less else if c = 42 then some .times else if c = 61 then some .same else none
/-- a digit from 0 to most -/
def digO (most : Nat) : List Nat → Option (Nat × List Nat)
  | [] => none
  | c :: r => if 48 ≤ c ∧ c ≤ 48 + most then some (c - 48, r) else none
def expO (c : Nat) : List Nat → Option (List Nat)
  | [] => none
  | x :: r => if x = c then some r else none
def prD : Nat → List Nat → Option (Tr × List Nat)
  | 0, _ => none
  | _ + 1, [] => none
  | d + 1, c :: r =>
    if 48 ≤ c ∧ c ≤ 50 then some (.num (c - 48), r)
    else if c = 103 then some (.given, r)
    else if c = 115 then some (.setting, r)
    else if c = 99 then (digO 1 r).map fun p => (.col p.1, p.2)
    else if c = 107 then (digO 1 r).map fun p => (.kept p.1, p.2)
    else if c = 102 then (digO 2 r).bind fun p => (expO 40 p.2).bind fun r1 => (prD d r1).bind fun q => (expO 41 q.2).map fun r2 => (.call p.1 q.1, r2)
    else if c = 40 then (prD d r).bind fun q => match q.2 with
      | [] => none
      | s :: r1 => if s = 63 then (prD d r1).bind fun q2 => (expO 58 q2.2).bind fun r2 => (prD d r2).bind fun q3 => (expO 41 q3.2).map fun r3 => (.whn q.1 q2.1 q3.1, r3)
        else (opOf s).bind fun o => (prD d r1).bind fun q2 => (expO 41 q2.2).map fun r2 => (.bin o q.1 q2.1, r2)
    else none
theorem digO_some {m : Nat} {l r : List Nat} {n : Nat} (h : digO m l = some (n, r)) : l = (48 + n) :: r ∧ n ≤ m := by
  cases l with
  | nil => simp [digO] at h
  | cons c l =>
    simp only [digO] at h
    split at h
    · cases h
      rename_i hc
      refine ⟨?_, by omega⟩
      rw [show 48 + (c - 48) = c by omega]
    · cases h
theorem expO_some {c : Nat} {l r : List Nat} (h : expO c l = some r) : l = c :: r := by
  cases l with
  | nil => simp [expO] at h
  | cons x l =>
    simp only [expO] at h
    split at h
    · cases h
      rename_i e
      rw [e]
    · cases h
def opC : Op → Nat
  | .sum => 43 | .less => 45 | .times => 42 | .same => 61
theorem opOf_some {c : Nat} {o : Op} (h : opOf c = some o) : c = opC o := by
  unfold opOf at h
  split at h
  · cases h; assumption
  · split at h
    · cases h; assumption
    · split at h
      · cases h; assumption
      · split at h
        · cases h; assumption
        · cases h
theorem opOf_opC (o : Op) : opOf (opC o) = some o := by cases o <;> rfl
/-- the text of a tree -/
def txt : Tr → List Nat
  | .num n => [48 + n]
  | .given => [103]
  | .setting => [115]
  | .col n => [99, 48 + n]
  | .kept n => [107, 48 + n]
  | .call n a => 102 :: (48 + n) :: 40 :: (txt a ++ [41])
  | .bin o a b => 40 :: (txt a ++ opC o :: (txt b ++ [41]))
  | .whn t a b => 40 :: (txt t ++ 63 :: (txt a ++ 58 :: (txt b ++ [41])))
/-- what is read is written so, and has numbers of a form -/
theorem prD_txt : ∀ {d : Nat} {l r : List Nat} {t : Tr}, prD d l = some (t, r) → l = txt t ++ r ∧ t.wf = true ∧ t.depth ≤ d
  | 0, _, _, _, h => by simp [prD] at h
  | _ + 1, [], _, _, h => by simp [prD] at h
  | d + 1, c :: l, r, t, h => by
    simp only [prD] at h
    split at h
    · cases h
      rename_i hc
      refine ⟨by simp only [txt, List.cons_append, List.nil_append]; rw [show 48 + (c - 48) = c by omega], by simp only [Tr.wf, decide_eq_true_eq]; omega, by simp only [Tr.depth]; omega⟩
    split at h
    · cases h; rename_i hc; subst hc; exact ⟨rfl, rfl, by simp only [Tr.depth]; omega⟩
    split at h
    · cases h; rename_i hc; subst hc; exact ⟨rfl, rfl, by simp only [Tr.depth]; omega⟩
    split at h
    · rename_i hc; subst hc
      obtain ⟨⟨n, r'⟩, e1, e2⟩ := Option.map_eq_some_iff.mp h
      cases e2
      obtain ⟨rfl, hn⟩ := digO_some e1
      exact ⟨rfl, by simp only [Tr.wf, decide_eq_true_eq]; omega, by simp only [Tr.depth]; omega⟩
    split at h
    · rename_i hc; subst hc
      obtain ⟨⟨n, r'⟩, e1, e2⟩ := Option.map_eq_some_iff.mp h
      cases e2
      obtain ⟨rfl, hn⟩ := digO_some e1
      exact ⟨rfl, by simp only [Tr.wf, decide_eq_true_eq]; omega, by simp only [Tr.depth]; omega⟩
    split at h
    · rename_i hc; subst hc
      obtain ⟨⟨n, l1⟩, e1, h⟩ := Option.bind_eq_some_iff.mp h
      obtain ⟨l2, e2, h⟩ := Option.bind_eq_some_iff.mp h
      obtain ⟨⟨a, l3⟩, e3, h⟩ := Option.bind_eq_some_iff.mp h
      obtain ⟨l4, e4, h⟩ := Option.map_eq_some_iff.mp h
      cases h
      obtain ⟨rfl, hn⟩ := digO_some e1
      have e2 := expO_some e2
      have e4 := expO_some e4
      obtain ⟨i1, i2, i3⟩ := prD_txt e3
      dsimp only at e2 e4
      subst e2 e4
      refine ⟨by rw [i1]; simp only [txt, List.cons_append, List.append_assoc, List.nil_append], by simp only [Tr.wf, i2, Bool.and_true, decide_eq_true_eq]; omega, by simp only [Tr.depth]; omega⟩
    split at h
    · rename_i hc; subst hc
      obtain ⟨⟨a, l1⟩, e1, h⟩ := Option.bind_eq_some_iff.mp h
      obtain ⟨i1, i2, i3⟩ := prD_txt e1
      cases l1 with
      | nil => cases h
      | cons s l1 =>
        dsimp only at h
        split at h
        · rename_i hs; subst hs
          obtain ⟨⟨b, l2⟩, e2, h⟩ := Option.bind_eq_some_iff.mp h
          obtain ⟨l3, e3, h⟩ := Option.bind_eq_some_iff.mp h
          obtain ⟨⟨c, l4⟩, e4, h⟩ := Option.bind_eq_some_iff.mp h
          obtain ⟨l5, e5, h⟩ := Option.map_eq_some_iff.mp h
          cases h
          have e3 := expO_some e3
          have e5 := expO_some e5
          obtain ⟨j1, j2, j3⟩ := prD_txt e2
          obtain ⟨k1, k2, k3⟩ := prD_txt e4
          dsimp only at e3 e5
          subst e3 e5
          refine ⟨by rw [i1, j1, k1]; simp only [txt, List.cons_append, List.append_assoc, List.nil_append], by simp only [Tr.wf, i2, j2, k2, Bool.and_true], by simp only [Tr.depth]; omega⟩
        · obtain ⟨o, eo, h⟩ := Option.bind_eq_some_iff.mp h
          obtain ⟨⟨b, l2⟩, e2, h⟩ := Option.bind_eq_some_iff.mp h
          obtain ⟨l3, e3, h⟩ := Option.map_eq_some_iff.mp h
          cases h
          have e3 := expO_some e3
          obtain ⟨j1, j2, j3⟩ := prD_txt e2
          dsimp only at e3
          subst e3
          rw [opOf_some eo] at i1
          refine ⟨by rw [i1, j1]; simp only [txt, List.cons_append, List.append_assoc, List.nil_append], by simp only [Tr.wf, i2, j2, Bool.and_true], by simp only [Tr.depth]; omega⟩
    · cases h
/-- what is written so is read -/
theorem prD_of : ∀ {t : Tr} {d : Nat} (r : List Nat), t.wf = true → t.depth ≤ d → prD d (txt t ++ r) = some (t, r)
  | t, 0, r, _, hd => absurd (Nat.le_trans (Tr.depth_pos t) hd) (by decide)
  | .num n, d + 1, r, hw, _ => by
    simp only [Tr.wf, decide_eq_true_eq] at hw
    simp only [txt, List.cons_append, List.nil_append, prD]
    rw [if_pos (by omega), show 48 + n - 48 = n by omega]
  | .given, d + 1, r, _, _ => rfl
  | .setting, d + 1, r, _, _ => rfl
  | .col n, d + 1, r, hw, _ => by
    simp only [Tr.wf, decide_eq_true_eq] at hw
    have h1 : 48 ≤ 48 + n ∧ 48 + n ≤ 48 + 1 := by omega
    simp only [txt, List.cons_append, List.nil_append, prD, digO, if_pos h1, show 48 + n - 48 = n by omega]
    rfl
  | .kept n, d + 1, r, hw, _ => by
    simp only [Tr.wf, decide_eq_true_eq] at hw
    have h1 : 48 ≤ 48 + n ∧ 48 + n ≤ 48 + 1 := by omega
    simp only [txt, List.cons_append, List.nil_append, prD, digO, if_pos h1, show 48 + n - 48 = n by omega]
    rfl
  | .call n a, d + 1, r, hw, hd => by
    simp only [Tr.wf, Bool.and_eq_true, decide_eq_true_eq] at hw
    simp only [Tr.depth] at hd
    have h1 : 48 ≤ 48 + n ∧ 48 + n ≤ 48 + 2 := by omega
    have ih := prD_of (t := a) (d := d) (41 :: r) hw.2 (by omega)
    simp only [txt, List.cons_append, List.append_assoc, List.nil_append, prD, digO, if_pos h1, show 48 + n - 48 = n by omega]
    simp [expO, ih]
  | .bin o a b, d + 1, r, hw, hd => by
    simp only [Tr.wf, Bool.and_eq_true] at hw
    simp only [Tr.depth] at hd
    have i1 := prD_of (t := a) (d := d) (opC o :: (txt b ++ 41 :: r)) hw.1 (by omega)
    have i2 := prD_of (t := b) (d := d) (41 :: r) hw.2 (by omega)
    have no : opC o ≠ 63 := by cases o <;> decide
    simp only [txt, List.cons_append, List.append_assoc, List.nil_append, prD]
    simp [expO, i1, i2, no, opOf_opC]
  | .whn t a b, d + 1, r, hw, hd => by
    simp only [Tr.wf, Bool.and_eq_true] at hw
    simp only [Tr.depth] at hd
    have i0 := prD_of (t := t) (d := d) (63 :: (txt a ++ 58 :: (txt b ++ 41 :: r))) hw.1 (by omega)
    have i1 := prD_of (t := a) (d := d) (58 :: (txt b ++ 41 :: r)) hw.2.1 (by omega)
    have i2 := prD_of (t := b) (d := d) (41 :: r) hw.2.2 (by omega)
    simp only [txt, List.cons_append, List.append_assoc, List.nil_append, prD]
    simp [expO, i0, i1, i2]
theorem prD_mono {d d' : Nat} {l r : List Nat} {t : Tr} (h : prD d l = some (t, r)) (hd : t.depth ≤ d') : prD d' l = some (t, r) := by
  obtain ⟨e, w, _⟩ := prD_txt h
  rw [e]
  exact prD_of r w hd
end Km
set_option Elab.async false
set_option linter.all false
set_option maxRecDepth 100000
set_option maxHeartbeats 4000000
/-! the text by places, calls by names, trees in the heap -/
namespace Km
open PySem PySem.Spec PyProof.Rows L2
/-- a def (or method) of the text as it stands behind the top -/
abbrev Dfn (K : PySem.W.Frag) (x qual : Str) (st : Stmt) (f : Addr) (fd : FuncData) : Prop := FunD K x qual (defArgs st) (defBody st) (defScope st) [] [] f fd
/-- a def of the module, by its promise -/
def CalX (CX : CXT) (P : Program) (w : World) (K : PySem.W.Frag) (mg : Str → Option Value) (base : Heap) (k : Nat) (x : Str) (sp : Sp) : Prop :=
  ∃ (f : Addr) (fd : FuncData) (ps : List Str), FnOk P w K mg base CX k f fd ps sp ∧ mg x = some (.ref f) ∧ PySem.W.keepIn K (.ref f) = true ∧ Binds K fd ps []
/-- a method -/
def MetX (CX : CXT) (P : Program) (w : World) (K : PySem.W.Frag) (mg : Str → Option Value) (base : Heap) (k : Nat) (C : Addr) (m : Str) (sp : Sp) : Prop :=
  ∃ (f : Addr) (fd : FuncData) (ps : List Str), FnOk P w K mg base CX k f fd ps sp ∧ Meth K C m f ∧ Binds K fd ps []
/-- a class, made by its __init__ -/
def MakX (CX : CXT) (P : Program) (w : World) (K : PySem.W.Frag) (mg : Str → Option Value) (base : Heap) (k : Nat) (x : Str) (C : Addr) (sp : Sp) : Prop :=
  ∃ (f : Addr) (fd : FuncData) (ps : List Str), FnOk P w K mg base CX k f fd ps sp ∧ mg x = some (.ref C) ∧ Mk K C f ∧ Binds K fd ps []
section
variable {X : Cx} {CX : CXT} {j k : Nat} {C : Addr} {sp : Sp} {E : XK} {x m : Str} {p pos apos : Pos} {e o : Expr} {es : List Expr} {ta : TE} {t : TA}
theorem pe_cx (c : CalX CX X.prog X.w X.K X.mg X.base k x sp) (hr : Room j X.A) (hx : Passes CX X E) (hg : Gl X x) (ha : PA X (e :: es) t) (hk : k ≤ j := by decide) (hdb : (x == ("__debug__" : Str)) = false := by decide)
    (he : starEach (e :: es) X.env = (false, eval e X.env) :: starEach es X.env := by rfl) (hpl : (backTo pos (starEach es X.env)).any (·.1) = false := by rfl) : PE X (.Call (.Name x p) (e :: es) [] pos) (tCall sp [] E t) := by
  obtain ⟨f, fd, ps, F, g, kp, b⟩ := c
  exact pe_call F (hr.mono hk) hg g kp b .nil hx ha hdb he hpl
theorem pe_mx {pl : Sem Bool} (c : MetX CX X.prog X.w X.K X.mg X.base k C m sp) (cl : Cls X.K C) (hr : Room j X.A) (hx : Passes CX X E) (he : PE X o ta) (ha : PA X (e :: es) t) (hk : k ≤ j := by decide)
    (hst : starEach (e :: es) X.env = (false, eval e X.env) :: starEach es X.env := by rfl) (hpl : (backTo pos (starEach es X.env)).any (·.1) = false := by rfl)
    (ht : eval (.Call (.Attribute o m apos) (e :: es) [] pos) X.env = (do
      let ov ← eval o X.env
      standAt apos.atName
      let (f, first) ← holding [ov] (getMethod ov m pl)
      callWith pos f first (backTo pos (starEach (e :: es) X.env)) (backToKw pos (keywordEach [] X.env))) := by rfl) :
    PE X (.Call (.Attribute o m apos) (e :: es) [] pos) (tMeth C m sp [] E ta t) := by
  obtain ⟨f, fd, ps, F, g, b⟩ := c
  exact pe_meth he cl g F (hr.mono hk) b .nil hx ha hst hpl ht
theorem pe_mx0 {pl : Sem Bool} (c : MetX CX X.prog X.w X.K X.mg X.base k C m sp) (cl : Cls X.K C) (hr : Room j X.A) (hx : Passes CX X E) (he : PE X o ta) (hk : k ≤ j := by decide)
    (ht : eval (.Call (.Attribute o m apos) [] [] pos) X.env = (do
      let ov ← eval o X.env
      standAt apos.atName
      let (f, first) ← holding [ov] (getMethod ov m pl)
      callWith pos f first (backTo pos (starEach [] X.env)) (backToKw pos (keywordEach [] X.env))) := by rfl) :
    PE X (.Call (.Attribute o m apos) [] [] pos) (tMeth C m sp [] E ta tNil) := by
  obtain ⟨f, fd, ps, F, g, b⟩ := c
  exact pe_meth0 he cl g F (hr.mono hk) b .nil hx ht
theorem pe_kx (c : MakX CX X.prog X.w X.K X.mg X.base k x C sp) (hr : Room j X.A) (hx : Passes CX X E) (hg : Gl X x) (ha : PA X (e :: es) t) (hk : k + 1 ≤ j := by decide) (hdb : (x == ("__debug__" : Str)) = false := by decide)
    (he : starEach (e :: es) X.env = (false, eval e X.env) :: starEach es X.env := by rfl) (hpl : (backTo pos (starEach es X.env)).any (·.1) = false := by rfl) : PE X (.Call (.Name x p) (e :: es) [] pos) (tMake C sp [] E t) := by
  obtain ⟨f, fd, ps, F, g, M, b⟩ := c
  exact pe_make M F (hr.mono hk) hg g b .nil hx ha hdb he hpl
end
theorem CalX.mono {CX : CXT} {P : Program} {w : World} {K : PySem.W.Frag} {mg : Str → Option Value} {base : Heap} {j k : Nat} {x : Str} {sp : Sp} (c : CalX CX P w K mg base j x sp) (h : j ≤ k) : CalX CX P w K mg base k x sp := by
  obtain ⟨f, fd, ps, F, r⟩ := c
  exact ⟨f, fd, ps, F.mono h, r⟩
/-! ### words -/
def Op.word : Op → Str
  | .sum => "sum" | .less => "less" | .times => "times" | .same => "same"
/-- the tree t stands in the heap as v -/
def TreeAt (H : Hp) : Tr → V → Prop
  | .num n, v => ∃ a, v = .ref a ∧ H a = some (.tup [.str "number", .int n])
  | .given, v => ∃ a, v = .ref a ∧ H a = some (.tup [.str "given"])
  | .setting, v => ∃ a, v = .ref a ∧ H a = some (.tup [.str "setting"])
  | .col n, v => ∃ a, v = .ref a ∧ H a = some (.tup [.str "column", .int n])
  | .kept n, v => ∃ a, v = .ref a ∧ H a = some (.tup [.str "kept", .int n])
  | .call n t, v => ∃ a x, v = .ref a ∧ H a = some (.tup [.str "call", .int n, x]) ∧ TreeAt H t x
  | .bin o t u, v => ∃ a x y, v = .ref a ∧ H a = some (.tup [.str o.word, x, y]) ∧ TreeAt H t x ∧ TreeAt H u y
  | .whn t u r, v => ∃ a x y z, v = .ref a ∧ H a = some (.tup [.str "when", x, y, z]) ∧ TreeAt H t x ∧ TreeAt H u y ∧ TreeAt H r z
/-- tuples stay -/
def Tups (H H' : Hp) : Prop := ∀ b xs, H b = some (.tup xs) → H' b = some (.tup xs)
theorem Tups.refl (H : Hp) : Tups H H := fun _ _ h => h
theorem Tups.trans {H H1 H2 : Hp} (a : Tups H H1) (b : Tups H1 H2) : Tups H H2 := fun c o h => b c o (a c o h)
theorem Same.tups {H H' : Hp} (s : Same H H') : Tups H H' := fun b xs h => s b _ h
theorem TreeAt.tups {H H' : Hp} (s : Tups H H') : ∀ {t : Tr} {v : V}, TreeAt H t v → TreeAt H' t v
  | .num _, _, ⟨a, e, h⟩ => ⟨a, e, s _ _ h⟩
  | .given, _, ⟨a, e, h⟩ => ⟨a, e, s _ _ h⟩
  | .setting, _, ⟨a, e, h⟩ => ⟨a, e, s _ _ h⟩
  | .col _, _, ⟨a, e, h⟩ => ⟨a, e, s _ _ h⟩
  | .kept _, _, ⟨a, e, h⟩ => ⟨a, e, s _ _ h⟩
  | .call _ _, _, ⟨a, x, e, h, i⟩ => ⟨a, x, e, s _ _ h, TreeAt.tups s i⟩
  | .bin _ _ _, _, ⟨a, x, y, e, h, i, j⟩ => ⟨a, x, y, e, s _ _ h, TreeAt.tups s i, TreeAt.tups s j⟩
  | .whn _ _ _, _, ⟨a, x, y, z, e, h, i, j, k⟩ => ⟨a, x, y, z, e, s _ _ h, TreeAt.tups s i, TreeAt.tups s j, TreeAt.tups s k⟩
theorem same_upd {H : Hp} {p : Addr} {o : HO} (h : H p = none) : Same H (upd H p o) := fun b u e => by rw [upd_ne (ne_of_none e h)]; exact e
theorem Same.tupT {K : PySem.W.Frag} {H H' : Hp} {a : Addr} {xs : List V} (e : Same H H') (h : SqT K H a xs) : SqT K H' a xs := by
  rcases h with (h | ⟨o, h⟩) | h
  · exact .inl (.inl (e _ _ h))
  · exact .inl (.inr ⟨o, e _ _ h⟩)
  · exact .inr h
end Km
set_option Elab.async false
set_option linter.all false
set_option maxRecDepth 100000
set_option maxHeartbeats 4000000
/-! more that is walked: a written dict's items, a text beside a tuple, a tuple with its places -/
namespace Km
open PySem PySem.Spec PyProof.Rows L2
/-! ### items of a written dict -/
/-- what stands at d in K: its entries as values -/
def EntK (K : PySem.W.Frag) (d : Addr) (kvs : List (V × V)) : Prop :=
  ∃ es n, K.lookup d = some ⟨.type "dict", none, .dict es n, #[]⟩ ∧ (d == sysModules) = false ∧ es.size = kvs.length ∧ ∀ i (h : i < es.size) k v, kvs[i]? = some (k, v) → RelV k es[i].key ∧ RelV v es[i].val
def ItK (kvs : List (V × V)) : It :=
  ⟨fun i _ => i < kvs.length, fun i H v H' => ∃ T x y, v = .ref T ∧ H T = none ∧ H' = upd H T (.tup [x, y]) ∧ kvs[i]? = some (x, y), fun i _ => kvs.length ≤ i⟩
theorem turn_itemsK {P : Program} {w : World} {K : PySem.W.Frag} {elts : List Expr} {kk : Nat} {tpos : Pos} {d it : Addr} {kvs : List (V × V)} {es : Array DictEntry} {n : Nat} (hl : K.lookup d = some ⟨.type "dict", none, .dict es n, #[]⟩)
    (hz : es.size = kvs.length) (hr : ∀ i (h : i < es.size) k v, kvs[i]? = some (k, v) → RelV k es[i].key ∧ RelV v es[i].val) :
    Turn P w K (.Tuple elts kk tpos) (ItK kvs) [it] it (fun i h => ∃ ok ov, IsItemIter h it d i es.size n ok ov) where
  mem := by simp
  obj := fun i h st b hb => by
    have e : b = it := by simpa using hb
    subst e
    obtain ⟨ok, ov, e⟩ := st
    exact ⟨_, e, fun v z => nomatch z⟩
  keep := fun i h h' st k => let ⟨ok, ov, e⟩ := st; ⟨ok, ov, k it (by simp) _ e⟩
  item := by
    intro X hP hw hK hc i pins s σ H E I hf st hg
    subst hP hw hK
    have hi : i < es.size := by rw [hz]; exact hg
    obtain ⟨⟨k, v⟩, hkv⟩ : ∃ p, kvs[i]? = some p := ⟨kvs[i]'hg, List.getElem?_eq_getElem hg⟩
    obtain ⟨rk, rv⟩ := hr i hi k v hkv
    have hm : s.heap.DictRaw d es n := ⟨_, I.kIn _ _ hl, ⟨rfl, rfl, rfl⟩, rfl⟩
    obtain ⟨ok, ov, he⟩ := st
    have hlt : it < s.heap.objs.size := Heap.lt_size he
    refine wpAny_pyNext_items_item_raw he hm hi fun h' ho hT hz hk => ?_
    refine ⟨_, rfl, wpAny_letOwnedTupleGo_items (s := { s with heap := h' }) ho fun h'' he' sb => ?_⟩
    have hT2 : h''.get? s.heap.objs.size = some { cls := .type "tuple", data := .seq #[es[i].key, es[i].val] } := (sb.2 _ (Nat.ne_of_gt hlt)).trans hT
    have new : ObjOk X.prog X.w (upd H s.heap.objs.size (.tup [k, v])) h'' s.heap.objs.size (.tup [k, v]) :=
      ⟨by show 2 ≤ sizeLine; decide, [es[i].key, es[i].val], .cons rk (.cons rv .nil), ⟨_, hT2, rfl, _, rfl⟩⟩
    have I1 : Inv X pins σ (upd H s.heap.objs.size (.tup [k, v])) { s with heap := h'' } :=
      I.turnedNew (t' := s.toks) (ch := [it]) (fun b ob hb e => (sb.2 b (by simpa using hb)).trans (hk b ob (by simpa using hb) e)) hf (Nat.le_refl _) new
    refine ⟨.ref s.heap.objs.size, _, I1, rfl, ⟨_, k, v, rfl, I.hok.fresh (Nat.le_refl _), rfl, hkv⟩, ⟨_, _, he'⟩, fun b hb => ?_⟩
    have e : b = it := by simpa using hb
    rw [e, upd_ne (Nat.ne_of_lt hlt)]
    exact (hf it (by simp)).1
  done := by
    intro X hP hw hK hc i pins s σ H E I hf st hg
    subst hP hw hK
    obtain ⟨f0, f1, f2, f3, f4, f5⟩ := hf it (by simp)
    have hm : s.heap.DictRaw d es n := ⟨_, I.kIn _ _ hl, ⟨rfl, rfl, rfl⟩, rfl⟩
    obtain ⟨ok, ov, he⟩ := st
    exact wpAny_pyNext_items_end_raw (I.ok.hd hc) he hm (by rw [hz]; exact hg) fun h' eb => ⟨rfl, I.turned (t' := s.toks) (fun b ob hb e => eb b ob hb e) f0 f1 f3 f4 f5⟩
  self := fun A i s Q E st h => let ⟨_, _, e⟩ := st; PySem.W.kcp_self e h
/-- for k, v in D.items(), D a written dict of the module -/
def iItemsK (K : PySem.W.Frag) (td : TE) : TI := fun σ H R => td σ H fun x H1 => ∃ d kvs, x = .ref d ∧ EntK K d kvs ∧ R (ItK kvs) H1
theorem pi_itemsK {X : Cx} {elts : List Expr} {kk : Nat} {e : Expr} {td : TE} {tpos apos cpos : Pos} (he : PE X e td) (hbase : attributeBase e "items" X.env (eval e X.env) = eval e X.env := by rfl) (hline : (apos.endLine == cpos.line) = true := by rfl) :
    PI X (.Tuple elts kk tpos) (.Call (.Attribute e "items" apos) [] [] cpos) (iItemsK X.K td) := by
  refine ⟨fun pins s σ H R I h => ?_⟩
  refine wpAny_Call_method (T := "dict") (id := "dict.items") hbase rfl hline F.plainAttrs_dict F.slot_dict_items F.type_dict_items (thn (he.run pins s σ H _ I h) fun u s1 ⟨x, H1, I1, rx, d, kvs, ex, ⟨es, n, hl, hs, hz, hr⟩, q⟩ => ?_)
  subst ex
  obtain rfl : u = Value.ref d := rx
  have hm : s1.heap.DictRaw d es n := ⟨_, I1.kIn _ _ hl, ⟨rfl, rfl, rfl⟩, rfl⟩
  refine ⟨hm.typeIs, fun a ea => by cases ea; exact ⟨_, I1.kIn _ _ hl, rfl⟩, ?_⟩
  have I2 : Inv X pins σ H1 { s1 with heap := s1.heap.push { cls := .type "dict_items", data := .fields #[.ref d] } } := I1.kept (t' := s1.toks) fun b ob q => Heap.get?_push_of_some _ q
  have fin : wpAny (model X.prog X.w) X.A (pyIter (.ref s1.heap.objs.size)) (PIE X pins σ (.Tuple elts kk tpos) R) X.xe { s1 with heap := s1.heap.push { cls := .type "dict_items", data := .fields #[.ref d] } } := by
    refine wpAny_pyIter_items_raw (d := d) ⟨_, Heap.get?_push_size _ rfl, rfl, rfl⟩ (hm.at fun _ e => Heap.get?_push_of_some _ e) (pi_one (tk := s1.toks) I2 _ (turn_itemsK hl hz hr) ⟨.none, .none, ?_⟩ q)
    exact Heap.get?_push_size _ rfl
  show wpAny _ _ (callWith cpos (.builtin "dict.items") [.ref d] [] []) _ X.xe s1
  exact method_meetsIn F.slot_dict_items F.entry_dict_items rfl (PySem.evalArgs_none ⟨rfl, hm.typeIs, F.args_dict_items_1 _, _, meets_dict_items_raw d hs, ⟨es, n, hm⟩, fin⟩)
/-- the loop over them -/
theorem for_itk {kvs : List (V × V)} {g : TG} {tb : TS} {D : Ends} {σ : L2.St} {H : Hp} (Pv : Nat → L2.St → Hp → Prop) (h0 : Pv 0 σ H)
    (hs : ∀ (i : Nat) (x y : V) (T : Addr) (σ : L2.St) (H : Hp), kvs[i]? = some (x, y) → Pv i σ H → H T = none → g (.ref T) σ (upd H T (.tup [x, y])) fun σ2 H2 => tb { D with nx := Pv (i + 1), ct := Pv (i + 1), bk := D.nx } σ2 H2) (hd : ∀ σ H, Pv kvs.length σ H → D.nx σ H) :
    ∃ W : Nat → Nat → L2.St → Hp → Prop, (∃ m, W 0 m σ H) ∧ ∀ i m σ H, W i m σ H →
      ((ItK kvs).stop i H ∧ D.nx σ H) ∨ ((ItK kvs).go i H ∧ ∃ N : L2.St → Hp → Prop, (∀ σ' H', N σ' H' → ∃ m', m' < m ∧ W (i + 1) m' σ' H') ∧ ∀ v H', (ItK kvs).yld i H v H' → g v σ H' fun σ2 H2 => tb { D with nx := N, ct := N, bk := D.nx } σ2 H2) := by
  refine ⟨fun i m σ H => m = kvs.length - i ∧ i ≤ kvs.length ∧ Pv i σ H, ⟨kvs.length, rfl, Nat.zero_le _, h0⟩, ?_⟩
  rintro i m σ H ⟨rfl, hi, p⟩
  by_cases hlt : i < kvs.length
  · refine .inr ⟨hlt, Pv (i + 1), fun σ' H' p' => ⟨kvs.length - (i + 1), by omega, rfl, by omega, p'⟩, ?_⟩
    rintro v H' ⟨T, x, y, rfl, hT, rfl, e⟩
    exact hs i x y T σ H e p hT
  · have e : i = kvs.length := by omega
    subst e
    exact .inl ⟨Nat.le_refl _, hd σ H p⟩
/-- the comprehension over them -/
theorem lc_itk {kvs : List (V × V)} {g : TG} {tt : TT} {te : TE} {vs : List Nat} {σ : L2.St} {H1 : Hp} {D : Addr} {Qd : Hp → Prop} (Pv : Nat → Hp → Prop) (h0 : Pv 0 (upd H1 D (.lst [])))
    (hs : ∀ (i : Nat) (x y : V) (T : Addr) (H : Hp), kvs[i]? = some (x, y) → Pv i H → H T = none → g (.ref T) (wipe σ vs) (upd H T (.tup [x, y])) fun σ2 H2 => wipe σ2 vs = wipe σ vs ∧ tt σ2 H2 fun b H3 =>
      if b = true then te σ2 H3 fun y H4 => ∃ acc, H4 D = some (.lst acc) ∧ acc.length < sizeLine ∧ Pv (i + 1) (upd H4 D (.lst (acc ++ [y]))) else Pv (i + 1) H3) (hd : ∀ H, Pv kvs.length H → Qd H) :
    ∃ W : Nat → Nat → Hp → Prop, (∃ m, W 0 m (upd H1 D (.lst []))) ∧ ∀ i m H, W i m H →
      ((ItK kvs).stop i H ∧ Qd H) ∨ ((ItK kvs).go i H ∧ ∃ Nx : Hp → Prop, (∀ H', Nx H' → ∃ m', m' < m ∧ W (i + 1) m' H') ∧ ∀ x H', (ItK kvs).yld i H x H' → g x (wipe σ vs) H' fun σ2 H2 => wipe σ2 vs = wipe σ vs ∧ tt σ2 H2 fun b H3 =>
        if b = true then te σ2 H3 fun y H4 => ∃ acc, H4 D = some (.lst acc) ∧ acc.length < sizeLine ∧ Nx (upd H4 D (.lst (acc ++ [y]))) else Nx H3) := by
  refine ⟨fun i m H => m = kvs.length - i ∧ i ≤ kvs.length ∧ Pv i H, ⟨kvs.length, rfl, Nat.zero_le _, h0⟩, ?_⟩
  rintro i m H ⟨rfl, hi, p⟩
  by_cases hlt : i < kvs.length
  · refine .inr ⟨hlt, Pv (i + 1), fun H' p' => ⟨kvs.length - (i + 1), by omega, rfl, by omega, p'⟩, ?_⟩
    rintro v H' ⟨T, x, y, rfl, hT, rfl, e⟩
    exact hs i x y T H e p hT
  · have e : i = kvs.length := by omega
    subst e
    exact .inl ⟨Nat.le_refl _, hd H p⟩
/-! ### zip of a text and a tuple -/
def ItzS (K : PySem.W.Frag) (z : Str) (b : Addr) : It :=
  ⟨fun i H => ∃ (ys : List V), SqT K H b ys ∧ i < z.cps.size ∧ i < ys.length,
    fun i H v H' => ∃ T c y, v = .ref T ∧ H T = none ∧ H' = upd H T (.tup [.str ⟨#[c]⟩, y]) ∧ z.cps[i]? = some c ∧ ∀ ys, SqT K H b ys → ys[i]? = some y,
    fun i H => ∃ ys : List V, SqT K H b ys ∧ i ≤ z.cps.size ∧ i ≤ ys.length ∧ (i = z.cps.size ∨ i = ys.length)⟩
theorem turn_zipS {P : Program} {w : World} {K : PySem.W.Frag} {elts : List Expr} {kk : Nat} {tpos : Pos} {z : Str} {t : Tok} {b zz TI TO i1 i2 : Addr} (S : ZipSep2 zz TI TO i1 i2 [i1] [i2, b]) (hTb : TI ≠ b) :
    Turn P w K (.Tuple elts kk tpos) (ItzS K z b) [zz, TI, TO, i1, i2] zz (fun i h => IsZip h zz TI TO .none ∧ IsTupOf2 h TI (.ref i1) (.ref i2) ∧ (∃ x y, IsTupOf2 h TO x y) ∧ h.IsStrIter i1 (strIterType z) z t i ∧ h.IsTupleIter i2 b i) where
  mem := by simp
  obj := fun i h st c hc => by
    obtain ⟨hz, hTI, ⟨x, y, hTO⟩, ⟨o1, e1, _, d1⟩, ⟨o2, e2, _, d2⟩⟩ := st
    have e' : c = zz ∨ c = TI ∨ c = TO ∨ c = i1 ∨ c = i2 := by simpa using hc
    rcases e' with q | q | q | q | q
    · rw [q]; exact ⟨_, hz, fun v q => nomatch q⟩
    · rw [q]; exact ⟨_, hTI, fun v q => nomatch q⟩
    · rw [q]; exact ⟨_, hTO, fun v q => nomatch q⟩
    · rw [q]; exact ⟨o1, e1, fun v q => by rw [d1] at q; cases q⟩
    · rw [q]; exact ⟨o2, e2, fun v q => by rw [d2] at q; cases q⟩
  keep := fun i h h' st k => by
    obtain ⟨hz, hTI, ⟨x, y, hTO⟩, ⟨o1, e1, c1, d1⟩, h2⟩ := st
    exact ⟨k zz (by simp) _ hz, k TI (by simp) _ hTI, ⟨x, y, k TO (by simp) _ hTO⟩, ⟨o1, k i1 (by simp) _ e1, c1, d1⟩, h2.at fun o q => k i2 (by simp) o q⟩
  item := by
    intro X hP hw hK hc i pins s σ H E I hf st hg
    subst hP hw hK
    obtain ⟨hz, hTI, ⟨x0, y0, hTO⟩, h1, h2⟩ := st
    obtain ⟨ys, hqy, hi1, hi2⟩ := hg
    obtain ⟨its2, rv2, p2, _⟩ := I.tuple hqy
    have l2 := rv2.length
    have hh : X.A.in1.handled = none := I.ok.hd hc
    have D1 := Draws.text (prog := X.prog) (w := X.w) hh i1 z t
    have hne : b ≠ i2 := fun q => by
      obtain ⟨o2, e2, c2, _⟩ := h2
      obtain ⟨ob, eb, cb, _⟩ := p2
      rw [q, e2] at eb
      cases eb
      rw [c2] at cb
      exact absurd (Value.type.inj cb) (by decide)
    have D2 := Draws.tuple (prog := X.prog) (w := X.w) hh i2 b hne its2.toArray
    have hzl : zz < s.heap.objs.size := Heap.lt_size hz
    refine wpAny_pyNext_zipD2_item S D1 D2 hz hTI hTO h1 ⟨h2, p2⟩ hi1 (by simpa [← l2] using hi2) fun x1 x2 h' tk hx1 hx2 z' TO' h1' h2' hT hsz hk => ?_
    obtain ⟨c, u, hcz, rfl⟩ := hx1
    obtain ⟨y, hy⟩ : ∃ y, ys[i]? = some y := ⟨ys[i], List.getElem?_eq_getElem hi2⟩
    obtain ⟨u2, hu2, ru2⟩ := rv2.get hy
    have ex2 : x2 = u2 := by
      have q : its2.toArray[i]? = some x2 := hx2
      rw [List.getElem?_toArray, hu2] at q
      exact (Option.some.inj q).symm
    subst ex2
    refine ⟨_, rfl, wpAny_letOwnedTupleGo_zip (s := { s with heap := h', toks := tk }) z' fun h'' z'' sb => ?_⟩
    have hT2 : h''.get? s.heap.objs.size = some { cls := .type "tuple", data := .seq #[.str ⟨#[c]⟩ u, x2] } := (sb.2 _ (Nat.ne_of_gt hzl)).trans hT
    have new : ObjOk X.prog X.w (upd H s.heap.objs.size (.tup [.str ⟨#[c]⟩, y])) h'' s.heap.objs.size (.tup [.str ⟨#[c]⟩, y]) :=
      ⟨by show 2 ≤ sizeLine; decide, [.str ⟨#[c]⟩ u, x2], .cons ⟨u, rfl⟩ (.cons ru2 .nil), ⟨_, hT2, rfl, _, rfl⟩⟩
    have I1 : Inv X pins σ (upd H s.heap.objs.size (.tup [.str ⟨#[c]⟩, y])) { s with heap := h'', toks := tk } :=
      I.turnedNew (t' := tk) (ch := [zz, TI, TO, i1, i2]) (fun c o hb q => (sb.2 c (fun q' => hb (by simp [q']))).trans (hk c o (fun q' => hb (by simp [q'])) (fun q' => hb (by simp [q'])) (fun q' => hb (by simp [q'])) (fun q' => hb (by simp [q'])) q)) hf (Nat.le_refl _) new
    refine ⟨.ref s.heap.objs.size, _, I1, rfl, ⟨_, c, y, rfl, I.hok.fresh (Nat.le_refl _), rfl, hcz, fun l hl => by rw [I.tuple_inj hl hqy]; exact hy⟩, ⟨z'', ?_, ⟨.str ⟨#[c]⟩ u, x2, ?_⟩, ?_, ?_⟩, fun c hcm => ?_⟩
    · exact (sb.2 _ S.TIz).trans (hk _ _ S.TIz S.TITO S.TIi1 S.TIi2 hTI)
    · exact (sb.2 _ S.TOz).trans TO'
    · obtain ⟨o1, e1, c1, d1⟩ := h1'
      exact ⟨o1, (sb.2 _ S.zi1.symm).trans e1, c1, d1⟩
    · exact h2'.1.at fun o q => (sb.2 _ S.zi2.symm).trans q
    · have hlt : c < s.heap.objs.size := by
        have e' : c = zz ∨ c = TI ∨ c = TO ∨ c = i1 ∨ c = i2 := by simpa using hcm
        rcases e' with q | q | q | q | q
        · rw [q]; exact hzl
        · rw [q]; exact Heap.lt_size hTI
        · rw [q]; exact Heap.lt_size hTO
        · rw [q]; obtain ⟨_, e1, _⟩ := h1; exact Heap.lt_size e1
        · rw [q]; obtain ⟨_, e1, _⟩ := h2; exact Heap.lt_size e1
      rw [upd_ne (Nat.ne_of_lt hlt)]
      exact (hf c hcm).1
  done := by
    intro X hP hw hK hc i pins s σ H E I hf st hg
    subst hP hw hK
    obtain ⟨hz, hTI, ⟨x0, y0, hTO⟩, h1, h2⟩ := st
    obtain ⟨ys, hqy, hi1, hi2, hend⟩ := hg
    obtain ⟨its2, rv2, p2, _⟩ := I.tuple hqy
    have l2 := rv2.length
    have hh : X.A.in1.handled = none := I.ok.hd hc
    have D1 := Draws.text (prog := X.prog) (w := X.w) hh i1 z t
    have hne : b ≠ i2 := fun q => by
      obtain ⟨o2, e2, c2, _⟩ := h2
      obtain ⟨ob, eb, cb, _⟩ := p2
      rw [q, e2] at eb
      cases eb
      rw [c2] at cb
      exact absurd (Value.type.inj cb) (by decide)
    have D2 := Draws.tuple (prog := X.prog) (w := X.w) hh i2 b hne its2.toArray
    have l2' : its2.toArray.size = ys.length := by rw [List.size_toArray]; exact l2.symm
    exact wpAny_pyNext_zipD2_end S D1 D2 hz hTI hTO h1 ⟨h2, p2⟩ hi1 (by rw [l2']; exact hi2) (by rw [l2']; exact hend) fun h' tk hk => ⟨rfl, I.turnedL (t' := tk) (ch := [zz, TI, TO, i1, i2]) (fun c o hb q =>
      hk c o (fun q' => hb (by simp [q'])) (fun q' => hb (by simp [q'])) (fun q' => hb (by simp [q'])) (fun q' => hb (by simp [q'])) q) hf⟩
  self := fun A i s Q E st h => wpAny_pyIter_zip st.1 h
theorem zipSep_new (n b : Nat) (h : b < n) : ZipSep2 (n + 4) (n + 2) (n + 3) n (n + 1) [n] [n + 1, b] where
  TIz := fun e => by have e : n + 2 = n + 4 := e; omega
  TOz := fun e => by have e : n + 3 = n + 4 := e; omega
  TITO := fun e => by have e : n + 2 = n + 3 := e; omega
  TIi1 := fun e => by have e : n + 2 = n := e; omega
  mem1 := List.mem_singleton.mpr rfl
  zf1 := fun m => by have e : n + 4 = n := List.mem_singleton.mp m; omega
  Tf1 := fun m => by have e : n + 3 = n := List.mem_singleton.mp m; omega
  TIi2 := fun e => by have e : n + 2 = n + 1 := e; omega
  mem2 := List.mem_cons_self ..
  zf2 := fun m => by
    rcases List.mem_cons.mp m with e | m
    · have e : n + 4 = n + 1 := e; omega
    · have e : n + 4 = b := List.mem_singleton.mp m; omega
  Tf2 := fun m => by
    rcases List.mem_cons.mp m with e | m
    · have e : n + 3 = n + 1 := e; omega
    · have e : n + 3 = b := List.mem_singleton.mp m; omega
  sep1_2 := fun m => by
    rcases List.mem_cons.mp m with e | m
    · have e : n = n + 1 := e; omega
    · have e : n = b := List.mem_singleton.mp m; omega
  sep2_1 := fun m => by have e : n + 1 = n := List.mem_singleton.mp m; omega
def iZipS (K : PySem.W.Frag) (ta : TA) : TI := fun σ H R => ta σ H fun vs H1 => ∃ z b ys, vs = [.str z, .ref b] ∧ SqT K H1 b ys ∧ R (ItzS K z b) H1
theorem pi_zipS {X : Cx} {e e2 : Expr} {ta : TA} {p pos tpos : Pos} {elts : List Expr} {kk : Nat} (hg : Gl X "zip") (hm : X.mg "zip" = none) (ha : PA X [e, e2] ta)
    (hs : starEach [e, e2] X.env = (false, eval e X.env) :: starEach [e2] X.env := by rfl) (hpl : (backTo pos (starEach [e2] X.env)).any (·.1) = false := by rfl) :
    PI X (.Tuple elts kk tpos) (.Call (.Name "zip" p) [e, e2] [] pos) (iZipS X.K ta) := by
  refine ⟨fun pins s σ H R I h => ?_⟩
  refine Call_ (ld_blt I hg hm PyProof.Rows.boot_zip (PyProof.Rows.callWith_type1 (thn (ha.run pos pins s σ H _ I h) fun us s1 ⟨vs, H1, I1, r1, q1⟩ => ?_) hs hpl))
  obtain ⟨z, b, ys, ex, hqy, q⟩ := q1
  subst ex
  cases r1 with
  | cons r rr =>
    cases rr with
    | cons r' rr =>
      cases rr
      obtain ⟨t, rfl⟩ := r
      cases r'
      have fresh5 : ∀ c, c ∈ [s1.heap.objs.size + 4, s1.heap.objs.size + 2, s1.heap.objs.size + 3, s1.heap.objs.size, s1.heap.objs.size + 1] → FpOk X pins H1 c := fun c hcm => by
        have e' : c = s1.heap.objs.size + 4 ∨ c = s1.heap.objs.size + 2 ∨ c = s1.heap.objs.size + 3 ∨ c = s1.heap.objs.size ∨ c = s1.heap.objs.size + 1 := by simpa using hcm
        have hle : s1.heap.objs.size ≤ c := by
          rcases e' with z | z | z | z | z
          · rw [z]; exact Nat.le_add_right _ _
          · rw [z]; exact Nat.le_add_right _ _
          · rw [z]; exact Nat.le_add_right _ _
          · rw [z]; exact Nat.le_refl _
          · rw [z]; exact Nat.le_add_right _ _
        exact I1.fpOk hle (I1.hok.fresh hle)
      obtain ⟨its2, rv2, p2, _⟩ := I1.tuple hqy
      obtain ⟨ob, ho2, _⟩ := id p2
      have hb : b < s1.heap.objs.size := Heap.lt_size ho2
      refine zip_begins2 (begins_text z t) (begins_tuple b its2.toArray) trivial p2 fun h' hz hTI hTO h1 h2 hsz hk => wpAny_pyIter_zip hz ?_
      have I2 : Inv X pins σ H1 { s1 with heap := h' } := I1.kept (t' := s1.toks) hk
      have S : ZipSep2 (s1.heap.objs.size + 4) (s1.heap.objs.size + 2) (s1.heap.objs.size + 3) s1.heap.objs.size (s1.heap.objs.size + 1) [s1.heap.objs.size] [s1.heap.objs.size + 1, b] := zipSep_new _ _ hb
      refine ⟨s1.heap.objs.size + 4, [s1.heap.objs.size + 4, s1.heap.objs.size + 2, s1.heap.objs.size + 3, s1.heap.objs.size, s1.heap.objs.size + 1], _, _, H1, rfl, I2, turn_zipS (t := t) S (Nat.ne_of_gt (Nat.lt_of_lt_of_le hb (Nat.le_add_right _ _))), ⟨hz, hTI, ⟨_, _, hTO⟩, ⟨_, h1, rfl, rfl⟩, ⟨_, h2, rfl, rfl⟩⟩, fresh5, q⟩
theorem for_zipS {K : PySem.W.Frag} {z : Str} {b : Addr} {ys : List V} {g : TG} {tb : TS} {D : Ends} {σ : L2.St} {H : Hp} (hl : z.cps.size = ys.length) (Pv : Nat → L2.St → Hp → Prop) (h0 : Pv 0 σ H) (hq : ∀ i σ H, Pv i σ H → SqT K H b ys)
    (hs : ∀ (i c : Nat) (y : V) (T : Addr) (σ : L2.St) (H : Hp), z.cps[i]? = some c → ys[i]? = some y → Pv i σ H → H T = none → g (.ref T) σ (upd H T (.tup [.str ⟨#[c]⟩, y])) fun σ2 H2 => tb { D with nx := Pv (i + 1), ct := Pv (i + 1), bk := D.nx } σ2 H2) (hd : ∀ σ H, Pv ys.length σ H → D.nx σ H) :
    ∃ W : Nat → Nat → L2.St → Hp → Prop, (∃ m, W 0 m σ H) ∧ ∀ i m σ H, W i m σ H →
      ((ItzS K z b).stop i H ∧ D.nx σ H) ∨ ((ItzS K z b).go i H ∧ ∃ N : L2.St → Hp → Prop, (∀ σ' H', N σ' H' → ∃ m', m' < m ∧ W (i + 1) m' σ' H') ∧ ∀ v H', (ItzS K z b).yld i H v H' → g v σ H' fun σ2 H2 => tb { D with nx := N, ct := N, bk := D.nx } σ2 H2) := by
  refine ⟨fun i m σ H => m = ys.length - i ∧ i ≤ ys.length ∧ Pv i σ H, ⟨ys.length, rfl, Nat.zero_le _, h0⟩, ?_⟩
  rintro i m σ H ⟨rfl, hi, p⟩
  have hq' := hq i σ H p
  by_cases hlt : i < ys.length
  · refine .inr ⟨⟨ys, hq', by omega, hlt⟩, Pv (i + 1), fun σ' H' p' => ⟨ys.length - (i + 1), by omega, rfl, by omega, p'⟩, ?_⟩
    rintro v H' ⟨T, c, y, rfl, hT, rfl, e1, e2⟩
    exact hs i c y T σ H e1 (e2 ys hq') p hT
  · have e : i = ys.length := by omega
    subst e
    exact .inl ⟨⟨ys, hq', by omega, Nat.le_refl _, .inr rfl⟩, hd σ H p⟩
end Km
set_option Elab.async false
set_option linter.all false
set_option maxRecDepth 100000
set_option maxHeartbeats 4000000
/-! sets of numbers: made by a comprehension, made of a list -/
namespace Km
open PySem PySem.Spec PyProof.Rows L2
theorem setI_fresh {h : Heap} (w : World) : SetR w (h.push { cls := .type "set", dict := none, data := .set #[] 0 (.fresh 0 0 (!w.params.followText "set-order")) }) h.objs.size (fun _ => false) 0 :=
  (setR_new_at (ns := []) (Heap.get?_push_size _ rfl)).congr fun j => by simp
section
variable {X : Cx}
theorem addI_ok {pins : List (Addr × Obj)} {σ : L2.St} {H : Hp} {s : Shared} {E : Value → Shared → Prop} {D : Addr} {S : Int → Bool} {n : Nat} {y : Int} {t : Tok} {Q : Value → Shared → Prop} (I : Inv X pins σ H s) (hD : H D = some (SetO X.w D S n)) (room : n + 1 < scanBound)
    (h : ∀ s', Inv X pins σ (upd H D (SetO X.w D (fun j => S j || decide (j = y)) (if S y = true then n else n + 1))) s' → Q .none s') : wpAny (model X.prog X.w) X.A (call (.builtin "set.add") [.ref D, .int y t]) Q E s := by
  refine setR_add (setO_get I hD) room fun h' sb new => ?_
  have he : ∃ u, h'.get? D = some u := by
    have ⟨o, _, _, _, ho, _⟩ := new
    exact ⟨o, ho⟩
  exact h _ (I.write (e := D) (t' := s.toks + 1) (by rw [hD]; trivial) (.inl rfl) (fun b u hb hu => (sb.2 b hb).trans hu) he (setO_new new))
/-- a set of numbers, item by item -/
def tScI (w : World) (wi : TI) (g : TG) (tt : TT) (te : TE) (vs : List Nat) : TE := fun σ H Q => wi σ H fun J H1 => ∀ D, H1 D = none → ∃ W : Nat → Nat → Hp → Prop, (∃ m, W 0 m (upd H1 D (SetO w D (fun _ => false) 0))) ∧ ∀ i m H, W i m H →
  (J.stop i H ∧ Q (.ref D) H) ∨ (J.go i H ∧ ∃ Nx : Hp → Prop, (∀ H', Nx H' → ∃ m', m' < m ∧ W (i + 1) m' H') ∧ ∀ x H', J.yld i H x H' → g x (wipe σ vs) H' fun σ2 H2 => wipe σ2 vs = wipe σ vs ∧ tt σ2 H2 fun b H3 =>
    if b = true then te σ2 H3 fun y H4 => ∃ (c : Int) (S : Int → Bool) (n : Nat), y = .int c ∧ H4 D = some (SetO w D S n) ∧ n + 1 < scanBound ∧ Nx (upd H4 D (SetO w D (fun j => S j || decide (j = c)) (if S c = true then n else n + 1))) else Nx H3)
theorem scI_core {pins : List (Addr × Obj)} {s : Shared} {σ : L2.St} {H : Hp} {Q : VK} {elt tg iter : Expr} {ifs : List Expr} {scope : Scope} {own : List (PySem.Str × Nat)} {pos pos' : Pos} {wi : TI} {g : TG} {tt : TT} {te : TE} {use : Option (Value → Sem Unit)} {Qf : Value → Shared → Prop}
    (hc : X.calm = true) (hN : X.N.Nodup) (I : Inv X pins σ H s) (hi : PI X tg iter wi) (ok : BlkOk X.N X.env.scope scope own)
    (hg : ∀ (s : Shared) (H : Hp) (C : Addr) (cl : List (PySem.Str × Addr)) (fp : List Addr), PG (X.blk s H scope (compEnvC scope cl C X.env) fp) tg g) (ht : ∀ (s : Shared) (H : Hp) (C : Addr) (cl : List (PySem.Str × Addr)) (fp : List Addr), PTs (X.blk s H scope (compEnvC scope cl C X.env) fp) ifs tt)
    (he : ∀ (s : Shared) (H : Hp) (C : Addr) (cl : List (PySem.Str × Addr)) (fp : List Addr), PE (X.blk s H scope (compEnvC scope cl C X.env) fp) elt te) (hs : ∀ x, foldedSetIterable iter X.env x = pure x)
    (h : tScI X.w wi g tt te (own.map (·.2)) σ H Q)
    (hRR : ∀ D C s' m H', Inv X pins σ H' s' → Q (.ref D) H' → s'.heap.Ns C m → FpOk X pins H' C → compPost (model X.prog X.w) X.A X.xe use Qf (.ref D) C (.ok .next) s') :
    wpAny (model X.prog X.w) X.A (comprehension (.SetComp elt [⟨tg, iter, ifs, 0⟩] scope pos) scope X.env pos' (newSet (.type "set")) false (eval iter X.env) use) Qf X.xe s := by
  have hfree : ∀ y ∈ scope.names, y.2 = .free → ∃ c, X.env.cells.lookup y.1 = some c := fun y hy e => by
    rcases ok.free y hy e with k | k
    · exact I.ok.has _ (.inl k)
    · exact I.ok.has _ (.inr k)
  refine wpAny_comprehension_free (use := use) rfl hs (closure_ok hfree) ok.kind (fun y hy e => by rw [ok.uniq y hy, e])
    (thn (hi.run pins s σ H _ I h) fun xv s1 hx => thn hx fun itv s2 h2 => ?_)
  obtain ⟨it, fp, tn, J, H2, e, I2, T, st2, f2, q⟩ := h2
  subst e
  refine PpSet.newSet_ok (newEnv_comp ?_)
  generalize hD : s2.heap.objs.size = D
  have hDn : H2 D = none := I2.hok.fresh (Nat.le_of_eq hD)
  obtain ⟨W, ⟨m0, w0⟩, turn⟩ := q D hDn
  generalize hs3 : ({ s2 with heap := s2.heap.push { cls := .type "set", dict := none, data := .set #[] 0 (.fresh 0 0 (!X.w.params.followText "set-order")) } } : Shared) = s3
  have I3 : Inv X pins σ (upd H2 D (SetO X.w D (fun _ => false) 0)) s3 := by
    rw [← hs3]
    refine I2.laid (t' := s2.toks) (fun b o e => Heap.get?_push_of_some _ e) (Nat.le_of_eq hD) ?_
    rw [← hD]
    exact setO_new (setI_fresh X.w)
  have h3 : s3.heap = s2.heap.push { cls := .type "set", dict := none, data := .set #[] 0 (.fresh 0 0 (!X.w.params.followText "set-order")) } := by rw [← hs3]
  have sz : ∀ b ∈ fp, b < s2.heap.objs.size := fun b hb => by
    obtain ⟨o, e, _⟩ := T.obj _ _ st2 b hb
    exact Heap.lt_size e
  have f3 : ∀ b ∈ fp, FpOk X pins (upd H2 D (SetO X.w D (fun _ => false) 0)) b ∧ b < s3.heap.objs.size := fun b hb => by
    have hlt := sz b hb
    refine ⟨⟨?_, (f2 b hb).2⟩, by rw [h3, Heap.size_push]; exact Nat.lt_succ_of_lt hlt⟩
    rw [upd_ne (by rw [← hD]; exact Nat.ne_of_lt hlt)]
    exact (f2 b hb).1
  have st3 : tn 0 s3.heap := T.keep _ _ _ st2 fun b _ o e => by rw [h3]; exact Heap.get?_push_of_some _ e
  have I4 := block_start I3 ok hN f3
  have pg := hg s3 (upd H2 D (SetO X.w D (fun _ => false) 0)) s3.heap.objs.size (cellsFrom (s3.heap.objs.size + 1) scope.names (cloFrom X.env.cells scope.names [])) fp
  have pt := ht s3 (upd H2 D (SetO X.w D (fun _ => false) 0)) s3.heap.objs.size (cellsFrom (s3.heap.objs.size + 1) scope.names (cloFrom X.env.cells scope.names [])) fp
  have pe := he s3 (upd H2 D (SetO X.w D (fun _ => false) 0)) s3.heap.objs.size (cellsFrom (s3.heap.objs.size + 1) scope.names (cloFrom X.env.cells scope.names [])) fp
  show codeAny _ _ (.compStart (.SetComp elt [⟨tg, iter, ifs, 0⟩] scope pos) 0 (.ref it) (.ref D) (compEnvC scope (cellsFrom (s3.heap.objs.size + 1) scope.names (cloFrom X.env.cells scope.names [])) s3.heap.objs.size X.env)) (compPost (model X.prog X.w) X.A X.xe use Qf (.ref D) s3.heap.objs.size) { s3 with heap := pushCells (s3.heap.push { cls := .type "dict", data := .dict #[] }) scope.names }
  have nfp : ∀ b ∈ fp, (upd H2 D (SetO X.w D (fun _ => false) 0)) b = none := fun b hb => (f3 b hb).1.1
  generalize hce : compEnvC scope (cellsFrom (s3.heap.objs.size + 1) scope.names (cloFrom X.env.cells scope.names [])) s3.heap.objs.size X.env = ce at I4 pg pt pe ⊢
  have cL : ce.locals = s3.heap.objs.size := by subst hce; rfl
  generalize hH3 : upd H2 D (SetO X.w D (fun _ => false) 0) = H3 at I3 I4 pg pt pe w0 nfp f3
  generalize hs4 : ({ s3 with heap := pushCells (s3.heap.push { cls := .type "dict", data := .dict #[] }) scope.names } : Shared) = s4 at I4 ⊢
  have st4 : tn 0 s4.heap := T.keep _ _ _ st3 fun b _ o e => by rw [← hs4]; exact pushCells_keeps _ _ _ _ (Heap.get?_push_of_some _ e)
  have stat : ∀ {σ' : L2.St} {H' : Hp} {s' : Shared}, Inv (X.blk s3 H3 scope ce fp) [] σ' H' s' → (∀ b ∈ fp, H' b = none) → ∀ b ∈ fp, FpOk (X.blk s3 H3 scope ce fp) [] H' b := fun {σ' H' s'} I' hn b hb =>
    ⟨hn b hb, (I'.ok.exf b hb).1, I'.ok.exfs b hb, .inl hb, fun x c e => (I'.ok.exf b hb).2 x c e, fun p hp => absurd (show p ∈ ([] : List (Addr × Obj)) ++ [] from hp) (by simp)⟩
  have loop : codeAny (model X.prog X.w) X.A (.compLoop (.SetComp elt [⟨tg, iter, ifs, 0⟩] scope pos) 0 (.ref it) (.ref D) ce) (compPost (model X.prog X.w) X.A X.xe use Qf (.ref D) s3.heap.objs.size) s4 := by
    refine PpSet.compLoopS_any (fun n s' => ∃ i H', Inv (X.blk s3 H3 scope ce fp) [] (wipe σ (own.map (·.2))) H' s' ∧ tn i s'.heap ∧ (∀ b ∈ fp, H' b = none) ∧ W i n H') ?_ m0 ⟨0, H3, I4, st4, nfp, w0⟩
    rintro n s5 ⟨i, H5, I5, st5, n5, w5⟩
    rcases turn i n H5 w5 with ⟨stop, qq⟩ | ⟨go, Nx, hNx, step⟩
    · have td := T.done (X.blk s3 H3 scope ce fp) rfl rfl rfl hc i [] s5 _ H5 (fun _ _ => False) I5 (stat I5 n5) st5 stop
      refine thnF td fun r s6 ⟨hr, I6⟩ => ?_
      subst hr
      have I7 : Inv X pins σ H5 s6 := I3.call' (ch := fp) I6.os I6.base I6.hok I6.bare fun b hb => ⟨(f3 b hb).1.2.2.2.1, (f3 b hb).1.2.1, (f3 b hb).1.2.2.2.2.1, (f3 b hb).1.2.2.2.2.2⟩
      have nC : H5 s3.heap.objs.size = none := by
        have z : H5 ce.locals = none := I6.free
        rw [cL] at z
        exact z
      obtain ⟨m, hn, _⟩ := I6.loc
      have hn : s6.heap.Ns ce.locals m := hn
      rw [cL] at hn
      exact hRR D s3.heap.objs.size s6 m H5 I7 qq hn (I3.fpOk (Nat.le_refl _) nC)
    · have ti := T.item (X.blk s3 H3 scope ce fp) rfl rfl rfl hc i [] s5 _ H5 (fun _ _ => False) I5 (stat I5 n5) st5 go
      refine thnF ti fun r s6 ⟨u, hr, h6⟩ => ?_
      subst hr
      refine thnF h6 fun _ s7 ⟨x, H7, I7, r7, y7, st7, n7⟩ => ?_
      have I7' := I7.pinned (stat I7 n7) (T.obj _ _ st7)
      refine thnF (pg.run _ s7 _ H7 x u _ I7' r7 (step x H7 y7)) fun _ s8 ⟨σ8, H8, I8, hw8, q8⟩ => ?_
      refine thnF (pt.run _ s8 σ8 H8 _ I8 q8) fun b s9 ⟨H9, I9, q9⟩ => ?_
      have fin : ∀ {s' : Shared} {H' : Hp}, Inv (X.blk s3 H3 scope ce fp) ([] ++ pinsAt fp s7.heap) σ8 H' s' → Nx H' → ∃ m, m < n ∧ ∃ i H', Inv (X.blk s3 H3 scope ce fp) [] (wipe σ (own.map (·.2))) H' s' ∧ tn i s'.heap ∧ (∀ b ∈ fp, H' b = none) ∧ W i m H' := fun {s' H'} I' nx => by
        obtain ⟨m', hm, w'⟩ := hNx H' nx
        have pin' : ∀ b ∈ fp, ∀ o, s7.heap.get? b = some o → s'.heap.get? b = some o ∧ H' b = none := fun b hb o e =>
          let z := I'.pin (b, o) (List.mem_append_right _ (List.mem_append_right _ (mem_pinsAt hb e)))
          ⟨z.1, z.2.1⟩
        have hl : (wipe σ (own.map (·.2))).length = σ8.length := by rw [← hw8, wipe_length]
        refine ⟨m', hm, i + 1, H', (I'.unpinned (pins := [])).weak hl (fun j v e => ?_), T.keep _ _ _ st7 fun b hb o e => (pin' b hb o e).1, fun b hb => ?_, w'⟩
        · rw [← hw8] at e
          exact (wipe_some e).1
        · obtain ⟨o, e, _⟩ := T.obj _ _ st7 b hb
          exact (pin' b hb o e).2
      cases b with
      | false =>
        simp only [Bool.false_eq_true, if_false] at q9 ⊢
        exact fin I9 q9
      | true =>
        simp only [if_true] at q9 ⊢
        refine thnF (pe.run _ s9 σ8 H9 _ I9 q9) fun z s10 ⟨yv, H10, I10, r10, cb, S0, n0, ey, hD10, hz10, nx⟩ => ?_
        subst ey
        obtain ⟨tz, rfl⟩ := (show ∃ t, z = Value.int cb t from r10)
        exact addI_ok (X := X.blk s3 H3 scope ce fp) I10 hD10 hz10 fun s11 I11 => fin I11 nx
  exact PpSet.codeAny_compStart_set loop (T.self X.A 0 _ _ _ st4 loop)
theorem pe_scI {elt tg iter : Expr} {ifs : List Expr} {scope : Scope} {own : List (PySem.Str × Nat)} {pos : Pos} {wi : TI} {g : TG} {tt : TT} {te : TE} (hc : X.calm = true) (hN : X.N.Nodup) (hi : PI X tg iter wi) (ok : BlkOk X.N X.env.scope scope own)
    (hg : ∀ (s : Shared) (H : Hp) (C : Addr) (cl : List (PySem.Str × Addr)) (fp : List Addr), PG (X.blk s H scope (compEnvC scope cl C X.env) fp) tg g) (ht : ∀ (s : Shared) (H : Hp) (C : Addr) (cl : List (PySem.Str × Addr)) (fp : List Addr), PTs (X.blk s H scope (compEnvC scope cl C X.env) fp) ifs tt)
    (he : ∀ (s : Shared) (H : Hp) (C : Addr) (cl : List (PySem.Str × Addr)) (fp : List Addr), PE (X.blk s H scope (compEnvC scope cl C X.env) fp) elt te) (hs : ∀ x, foldedSetIterable iter X.env x = pure x := by intro _; rfl) :
    PE X (.SetComp elt [⟨tg, iter, ifs, 0⟩] scope pos) (tScI X.w wi g tt te (own.map (·.2))) := by
  refine ⟨fun pins s σ H Q I h => ?_⟩
  rw [PpSet.eval_SetComp]
  refine scI_core hc hN I hi ok hg ht he hs h fun D C s' m H' I' q hn f => ⟨m, hn, fun h'' sb => ?_⟩
  obtain ⟨f0, f1, f2, f3, f4, f5⟩ := f
  exact ⟨.ref D, H', I'.turned (t' := s'.toks) (fun b o hb e => (sb.2 b hb).trans e) f0 f1 f3 f4 f5, rfl, q⟩
end
/-- over a list that the block leaves as it is -/
theorem scI_list {w : World} {K : PySem.W.Frag} {a : Addr} {xs : List V} {g : TG} {tt : TT} {te : TE} {vs : List Nat} {σ : L2.St} {H1 : Hp} {D : Addr} {Qd : Hp → Prop} (Pv : Nat → Hp → Prop) (h0 : Pv 0 (upd H1 D (SetO w D (fun _ => false) 0))) (hl : ∀ i H, i ≤ xs.length → Pv i H → SqL K H a xs)
    (hs : ∀ i x H, xs[i]? = some x → Pv i H → g x (wipe σ vs) H fun σ2 H2 => wipe σ2 vs = wipe σ vs ∧ tt σ2 H2 fun b H3 =>
      if b = true then te σ2 H3 fun y H4 => ∃ (c : Int) (S : Int → Bool) (n : Nat), y = .int c ∧ H4 D = some (SetO w D S n) ∧ n + 1 < scanBound ∧ Pv (i + 1) (upd H4 D (SetO w D (fun j => S j || decide (j = c)) (if S c = true then n else n + 1))) else Pv (i + 1) H3) (hd : ∀ H, Pv xs.length H → Qd H) :
    ∃ W : Nat → Nat → Hp → Prop, (∃ m, W 0 m (upd H1 D (SetO w D (fun _ => false) 0))) ∧ ∀ i m H, W i m H →
      ((Itl K a).stop i H ∧ Qd H) ∨ ((Itl K a).go i H ∧ ∃ Nx : Hp → Prop, (∀ H', Nx H' → ∃ m', m' < m ∧ W (i + 1) m' H') ∧ ∀ x H', (Itl K a).yld i H x H' → g x (wipe σ vs) H' fun σ2 H2 => wipe σ2 vs = wipe σ vs ∧ tt σ2 H2 fun b H3 =>
        if b = true then te σ2 H3 fun y H4 => ∃ (c : Int) (S : Int → Bool) (n : Nat), y = .int c ∧ H4 D = some (SetO w D S n) ∧ n + 1 < scanBound ∧ Nx (upd H4 D (SetO w D (fun j => S j || decide (j = c)) (if S c = true then n else n + 1))) else Nx H3) := by
  refine ⟨fun i m H => m = xs.length - i ∧ i ≤ xs.length ∧ Pv i H, ⟨xs.length, by simp, Nat.zero_le _, h0⟩, ?_⟩
  rintro i m H ⟨rfl, hi, p⟩
  have q := hl i H hi p
  by_cases hlt : i < xs.length
  · refine .inr ⟨⟨xs, xs[i], q, by simp [hlt]⟩, Pv (i + 1), fun H' p' => ⟨xs.length - (i + 1), by omega, rfl, hlt, p'⟩, fun x H' y => ?_⟩
    obtain ⟨e, y⟩ := y
    subst e
    exact hs i x _ (y xs q) p
  · have e : i = xs.length := by omega
    subst e
    exact .inl ⟨⟨xs, q, Nat.le_refl _⟩, hd H p⟩
section
variable {P : Program} {w : World} {A : Around} {E : Value → Shared → Prop} {s : Shared}
set_option maxRecDepth 100000 in
set_option maxHeartbeats 3200000 in
theorem call_set_lstI {l : Addr} {items : Array Value} (ns : List Int) {Q : Value → Shared → Prop} (hh : A.handled = none) (hl : s.heap.IsList l items) (hit : IntsAre items.toList ns) (hb : ns.length + 1 < scanBound)
    (h : ∀ (h' : Heap) (tk c : Nat), SetR w h' s.heap.objs.size (fun j => decide (j ∈ ns)) c → c ≤ ns.length → (∀ b o, s.heap.get? b = some o → h'.get? b = some o) → Q (.ref s.heap.objs.size) { s with heap := h', toks := tk }) :
    wpAny (model P w) A (call (.type "set") [.ref l]) Q E s := by
  have hisz : items.size = ns.length := by
    have q := IntsAre.length hit
    rw [Array.length_toList] at q
    exact q
  obtain ⟨c, tl, hmro⟩ := F.called_set.mro
  have hmade := F.called_set.made
  have hsub := F.called_set.sub
  refine wpAny_call (codeAny_of_tree ?_)
  show wpAny _ _ (callAny (.type "set") _) _ _ _
  refine wpAny_pure ⟨Code.quiet_builtin _ (by decide +kernel), codeAny_builtin F.entry_type_call ?_⟩
  rw [Around.under_plain (weight_type_call_type "set" [.ref l] []) rfl]
  have h1 := F.called_set.notType
  have h2 := F.called_set.canCreate
  have hct := F.typeCall_set_1 (.ref l)
  repeat (any_goals (first | assumption | wp_step))

  refine codeAny_mono (code_set_led1 (.ref l) (E := E) (Q₁ := fun obj s₁ => obj = .ref s.heap.objs.size ∧ s₁ = { s with heap := s.heap.push { cls := .type "set", dict := none, data := .set #[] 0 (.fresh 0 0 (!w.params.followText "set-order")) } }) ⟨rfl, rfl⟩) fun r s₁ hr => ?_
  cases r with
  | error e => exact hr
  | ok fl =>
    cases fl with
    | ret obj =>
      obtain ⟨rfl, rfl⟩ := hr
      have hS : (s.heap.push { cls := .type "set", dict := none, data := .set #[] 0 (.fresh 0 0 (!w.params.followText "set-order")) }).get? s.heap.objs.size = some { cls := .type "set", dict := none, data := .set #[] 0 (.fresh 0 0 (!w.params.followText "set-order")) } := Heap.get?_push_size _ rfl
      have hT : Shared.TypeIs { s with heap := s.heap.push { cls := .type "set", dict := none, data := .set #[] 0 (.fresh 0 0 (!w.params.followText "set-order")) } } (.ref s.heap.objs.size) "set" := ⟨_, hS, rfl⟩
      have hli := F.called_set.init.lookup
      have hbi := F.called_set.init.bind (.ref s.heap.objs.size)
      repeat (any_goals (first | assumption | wp_step))

      refine codeAny_mono (codeAny_call_builtin (R := wants (fun r s₂ => r = .none ∧ ∃ h' tk c, s₂ = { s with heap := h', toks := tk } ∧ SetR w h' s.heap.objs.size (fun j => decide (j ∈ ns)) c ∧ c ≤ ns.length ∧
          (∀ b o, s.heap.get? b = some o → h'.get? b = some o)) E) F.called_set.init.plain F.entry_set_init (check_set_init_1 hT ?_)) fun r₂ s₂ hr₂ => ?_
      · obtain ⟨ol, hol, hcl, nl, hdl⟩ := hl
        obtain ⟨ocls, odict, odata, oslots⟩ := ol
        simp only at hcl hdl
        subst hcl; subst hdl
        have hol' : (s.heap.push { cls := .type "set", dict := none, data := .set #[] 0 (.fresh 0 0 (!w.params.followText "set-order")) }).get? l = some { cls := .type "list", dict := odict, data := .seq items nl, slots := oslots } := Heap.get?_push_of_some _ hol
        have hsls := F.sub_list_set
        have hslf := F.sub_list_frozenset
        have hne : (Value.type "list" == Value.type "dict") = false := by decide
        have hl1 : (s.heap.push { cls := .type "set", dict := none, data := .set #[] 0 (.fresh 0 0 (!w.params.followText "set-order")) }).IsList l items := ⟨_, hol', rfl, nl, rfl⟩
        unfold Builtin.«set.__init__» noKeywords Builtin.Frozenset.updateFrom
        generalize hPI : pyIter = PI
        wp_walk
        subst hPI

        refine wpAny_pyIter_list hl1 ?_
        refine wpAny_bind (wpAny_runValue ?_)
        have hlS : l < s.heap.objs.size := Heap.lt_size hol
        have hh3 : A.in1.in1.in1.handled = none := by simp [hh]
        have hz1 : (s.heap.push { cls := .type "set", dict := none, data := .set #[] 0 (.fresh 0 0 (!w.params.followText "set-order")) }).objs.size = s.heap.objs.size + 1 := Heap.size_push ..
        have hneI : l ≠ (s.heap.push { cls := .type "set", dict := none, data := .set #[] 0 (.fresh 0 0 (!w.params.followText "set-order")) }).objs.size := by
          rw [Heap.size_push]; exact Nat.ne_of_lt (Nat.lt_succ_of_lt hlS)
        have hSf : s.heap.objs.size ∉ [(s.heap.push { cls := .type "set", dict := none, data := .set #[] 0 (.fresh 0 0 (!w.params.followText "set-order")) }).objs.size, l] := by
          rw [Heap.size_push]; simp only [List.mem_cons, List.mem_singleton, List.not_mem_nil, or_false, not_or]
          exact ⟨Nat.ne_of_lt (Nat.lt_succ_self _), Nat.ne_of_gt hlS⟩
        have hval : ∀ (i : Nat) (v : Value), items[i]? = some v → ∃ k t, ns[i]? = some k ∧ v = .int k t := fun i v hv => by
          have hi : i < ns.length := by rw [← hisz]; exact (Array.getElem?_eq_some_iff.mp hv).1
          obtain ⟨t, e⟩ := PyProof.Rows.IntsAre.int_at hit i v (by rw [Array.getElem?_toList]; exact hv)
          refine ⟨ns[i], t, List.getElem?_eq_getElem hi, ?_⟩
          rw [e, List.getD_eq_getElem?_getD, List.getElem?_eq_getElem hi] <;> rfl
        refine set_update_ints ((Walks.list hh3 _ l hneI items).toS) s.heap.objs.size
          hSf ns hisz hb hval (items.size - 0) 0 _ (by omega) (Nat.zero_le _)
          ⟨⟨_, Heap.get?_push_size _ rfl, rfl, rfl⟩, (hl1.push _)⟩ ?hS0 ?hR
        case hS0 =>
          have hget : ((s.heap.push { cls := .type "set", dict := none, data := .set #[] 0 (.fresh 0 0 (!w.params.followText "set-order")) }).push { cls := .type "list_iterator", data := .fields #[.ref l, .int 0 0] }).get? s.heap.objs.size
              = some { cls := .type "set", dict := none, data := .set #[] 0 (.fresh 0 0 (!w.params.followText "set-order")) } := Heap.get?_push_of_some _ hS
          exact ⟨0, Nat.le_refl 0, setR_new_at hget⟩
        case hR =>
          intro s' c' hm hc' hS'
          obtain ⟨h', g2, d', tk', os'⟩ := s'
          have eg : g2 = s.gens := hm.gens
          have ed : d' = s.drawn := hm.drawn
          have eo : os' = s.os := hm.os
          subst eg; subst ed; subst eo
          show wpAny _ _ _ _ _ _
          refine wpAny_pure ?_
          show wpAny _ _ (ret Value.none) _ _ _
          rw [hisz] at hc'
          refine wpAny_pure ⟨rfl, h', tk', c', rfl, hS', hc', fun b o e => ?_⟩
          have hb0 : b < s.heap.objs.size := Heap.lt_size e
          have hb1 : b ≠ s.heap.objs.size := Nat.ne_of_lt hb0
          have hb2 : b ≠ (s.heap.push { cls := .type "set", dict := none, data := .set #[] 0 (.fresh 0 0 (!w.params.followText "set-order")) }).objs.size := by
            rw [Heap.size_push]; exact Nat.ne_of_lt (Nat.lt_succ_of_lt hb0)
          exact hm.heap b o (by simp only [List.mem_cons, List.mem_singleton, List.not_mem_nil, or_false, not_or]; exact ⟨hb1, hb2⟩) (Heap.get?_push_of_some _ (Heap.get?_push_of_some _ e))

      · cases r₂ with
        | error e => exact hr₂
        | ok fl₂ =>
          cases fl₂ with
          | ret r =>
            obtain ⟨rfl, h', tk, c', rfl, hS', hc', hk'⟩ := hr₂
            repeat (any_goals (first | assumption | wp_step))
            exact h _ _ _ hS' hc' hk'
          | _ => exact hr₂.elim
    | _ => exact hr.elim

end
theorem nd_one {k : Int} : ∀ {l : List Int}, l.Nodup → (∀ x ∈ l, x = k) → l.length ≤ 1
  | [], _, _ => Nat.zero_le _
  | [_], _, _ => Nat.le_refl _
  | a :: b :: r, h, e => by
    have e1 := e a (List.mem_cons_self ..)
    have e2 := e b (List.mem_cons_of_mem _ (List.mem_cons_self ..))
    obtain ⟨h1, _⟩ := List.nodup_cons.mp h
    exact absurd (by rw [e1, e2]; exact List.mem_cons_self ..) h1
theorem flt_len (m : Int) : ∀ l : List Int, l.length = (l.filter fun x => decide (x = m)).length + (l.filter fun x => !decide (x = m)).length
  | [] => rfl
  | a :: r => by
    have ih := flt_len m r
    by_cases e : a = m
    · simp [List.filter_cons, e]; omega
    · simp [List.filter_cons, e]; omega
theorem nd_len : ∀ (m : Nat) {l : List Int}, l.Nodup → (∀ k ∈ l, 0 ≤ k ∧ k < (m : Int)) → l.length ≤ m
  | 0, [], _, _ => Nat.le_refl _
  | 0, a :: r, _, h => by
    have := h a (List.mem_cons_self ..)
    omega
  | m + 1, l, nd, h => by
    have h1 := nd_one (k := (m : Int)) (nd.sublist (List.filter_sublist (p := fun x => decide (x = (m : Int))))) fun x hx => by simpa using (List.mem_filter.mp hx).2
    have h2 := nd_len m (nd.sublist (List.filter_sublist (p := fun x => !decide (x = (m : Int))))) fun x hx => by
      obtain ⟨a, b⟩ := List.mem_filter.mp hx
      have b : ¬ x = (m : Int) := by simpa using b
      have := h x a
      omega
    have e := flt_len (m : Int) l
    omega
section
variable {X : Cx}
/-- set(xs), xs a list of numbers -/
theorem cr_setOfL (hc : X.calm = true) : CallR X (.type "set") (fun vs H Q => ∃ (a : Addr) (ns : List Int), vs = [V.ref a] ∧ SqL X.K H a (ns.map V.int) ∧ ns.length ≤ 1000 ∧ ∀ p c, H p = none → c ≤ ns.length → (∀ m : Nat, (∀ k ∈ ns, 0 ≤ k ∧ k < (m : Int)) → c ≤ m) → Q (.ref p) (upd H p (SetO X.w p (fun j => decide (j ∈ ns)) c))) := by
  intro pins s σ H xs us Q I r h
  obtain ⟨a, ns, rfl, hq, hl, q⟩ := h
  cases r with
  | cons r rr =>
    cases rr
    cases r
    obtain ⟨its, rv, pl, hz⟩ := I.list hq
    have hi : IntsAre its.toArray.toList ns := ints_of_vals rv
    refine call_set_lstI ns (I.ok.hd hc) pl.isList hi (by unfold scanBound; omega) fun h' tk c R1 hcn k => ?_
    refine ⟨.ref _, upd H s.heap.objs.size (SetO X.w s.heap.objs.size (fun j => decide (j ∈ ns)) c), I.laid (t' := tk) k (Nat.le_refl _) (setO_new R1), rfl, q _ _ (I.hok.fresh (Nat.le_refl _)) hcn fun m hm => ?_⟩
    obtain ⟨o, es, ep, t, ho, hex, hdt, g, nd, hm2, hb, hf, hn, hr, hl2⟩ := R1
    have z : (es.toList.map keyOf).length ≤ m := nd_len m nd fun k hk => hm k (of_decide_eq_true ((hm2 k).mpr hk))
    simp only [List.length_map, Array.length_toList] at z
    omega
end
end Km
set_option Elab.async false
set_option linter.all false
set_option maxRecDepth 100000
set_option maxHeartbeats 4000000
/-! a field as a target among others; t == (); places of a tuple; isinstance of a caught error with a dict -/
namespace Km
open PySem PySem.Spec PyProof.Rows L2
section
variable {X : Cx} {o : Expr} {f : Str} {ta : TE} {pos : Pos}
/-- .., o.f, .. = .. -/
def gFld (K : PySem.W.Frag) (ta : TE) (f : Str) : TG := fun v σ H Q => ta σ H fun x H1 => ∃ a C dx fs, x = .ref a ∧ H1 a = some (.ins C dx fs) ∧ Cls K C ∧ NoAttr K C f ∧ fs.length < 1000 ∧ Q σ (upd H1 a (.ins C dx (putF f v fs)))
theorem pg_fld (ha : PE X o ta) : PG X (.Attribute o f pos) (gFld X.K ta f) := by
  refine ⟨fun pins s σ H v u Q I r h => ?_⟩
  refine PySem.W.kas_attr (thn (ha.run pins s σ H _ I h) fun ov s1 ⟨x, H1, I1, rx, a, C, dx, fs, ex, ea, c, n, l, q⟩ => ?_)
  subst ex
  obtain rfl : ov = Value.ref a := rx
  exact setattr_ok I1 ea c n l r fun s3 I3 => ⟨σ, _, I3, q⟩
end
/-! ### t == (), t != () -/
section
variable {prog : Program} {w : World} {A : Around} {E : Value → Shared → Prop} {s : Shared}
open AutoSeq1 (wpAny_loadPart')
open MeetsSeq MeetsSeq2 MeetsSeq3 SeqRoads2
theorem tuple_eqE {R : Result → Shared → Prop} (l b : Addr) (items : Array Value) (n n2 : Nat) (dd dd2 : Option Addr) (sl sl2 : Array (Option Value))
    (hl1 : s.heap.get? l = some { cls := .type "tuple", dict := dd, data := .seq items n, slots := sl }) (hb1 : s.heap.get? b = some { cls := .type "tuple", dict := dd2, data := .seq #[] n2, slots := sl2 }) (h : R (.ok (.ret (.bool (items.size == 0)))) s) :
    wpAny (model prog w) A.in1 (Builtin.«tuple.__eq__» ⟨[.ref l, .ref b], []⟩) (GQ.FinOf prog w A R) (fun e s' => R (.error e) s') s := by
  have f2 := AutoSeq1.sub_tuple_tuple
  obtain ⟨hp, g, d, tk, os⟩ := s
  wp_walk using wpAny_loadPart' hl1, wpAny_loadPart' hb1, wpAny_forIn_list _ (fun rest b s' => b.1 = none ∧ rest = [] ∧ s' = ⟨hp, g, d, tk, os⟩) _
  case turn =>
    rintro x rest b s' ⟨_, q, _⟩
    cases q
  case fin =>
    rintro ⟨b1, b2⟩ s' ⟨hb', _, rfl⟩
    simp only at hb'
    subst hb'
    wp_walk
    simpa [Builtin.Tuple.tupleCompareSizes] using h
  case h =>
    exact ⟨rfl, by simp, rfl⟩
theorem rc_tupE {l b : Addr} {items : Array Value} {Q : Value → Shared → Prop} (hu : A.units < cLine) (hl : s.heap.IsTuple l items) (hb : s.heap.IsTuple b #[]) (h : Q (.bool (items.size == 0)) s) :
    wpAny (model prog w) A (richCompare .Eq (.ref l) (.ref b)) Q E s := by
  obtain ⟨⟨cls, dd, data, sl⟩, ho, hc, n, hd⟩ := id hl
  obtain ⟨⟨cls2, dd2, data2, sl2⟩, ho2, hc2, n2, hd2⟩ := id hb
  simp only at hc hd hc2 hd2
  subst hc hd hc2 hd2
  refine wpAny_richCompare_same_room (op := .Eq) ⟨_, ho, rfl⟩ ⟨_, ho2, rfl⟩ F.slot_tuple_eq (GQ.call_here F.slot_tuple_eq ⟨_, ho, rfl⟩ F.entry_tuple_eq (F.args_tuple_eq_2 _ _) ?_) hu
  exact tuple_eqE (R := wants (fun v s' => v ≠ .notImplemented ∧ Q v s') E) l b items n n2 dd dd2 sl sl2 ho ho2 ⟨(fun x => nomatch x), h⟩
end
section
variable {X : Cx}
/-- t == () -/
def rEqE (K : PySem.W.Frag) : R2 := fun x y H Q => ∃ a b xs, x = .ref a ∧ y = .ref b ∧ SqT K H a xs ∧ SqT K H b [] ∧ Q (.bl xs.isEmpty) H
theorem op_eqE (hu : X.A.units < cLine) : OpR X (compareOp .Eq) (rEqE X.K) := by
  intro pins s σ H x y v u Q I rx ry h
  obtain ⟨a, b, xs, rfl, rfl, ha, hb, q⟩ := h
  cases rx
  cases ry
  obtain ⟨its, r1, p1, _⟩ := I.tuple ha
  obtain ⟨its2, r2, p2, _⟩ := I.tuple hb
  cases r2
  have e : (its.toArray.size == 0) = xs.isEmpty := by
    cases r1 with
    | nil => rfl
    | cons a b => rfl
  exact rc_tupE hu p1 p2 (by rw [e]; exact ⟨.bl xs.isEmpty, H, I, rfl, q⟩)
end
/-! ### enumerate(t), t a tuple -/
set_option maxHeartbeats 1000000 in
theorem meets_enum1 {v : Value} {o : Obj} {H : Heap → Prop} (B : Begins v o H) :
    Meets (Builtin.«enumerate.__new__» ⟨[.type "enumerate", v], []⟩) (fun _ R s => H s.heap ∧
      R (.ok (.ret (.ref (s.heap.push o).objs.size))) { s with heap := (s.heap.push o).push { cls := .type "enumerate", data := .fields #[.none, .bool false, .ref s.heap.objs.size, rawInt 0, .none, .none] } }) :=
  .of_wp fun prog w A R s h => by
    obtain ⟨hp, g, d, tk, os⟩ := s; obtain ⟨h1, h⟩ := h
    have hsub := sub_enumerate
    have q1 : ∀ {A' : Around} {E : Value → Shared → Prop} {Q : Value → Shared → Prop}, Q (.ref hp.objs.size) ⟨hp.push o, g, d, tk, os⟩ → wpAny (model prog w) A' (pyIter v) Q E ⟨hp, g, d, tk, os⟩ :=
      fun q => B.iter prog w _ _ ⟨hp, g, d, tk, os⟩ _ h1 q
    wp_walk using q1
    refine wpAny_stack_any fun st => wpAny_pure ?_
    split
    · rename_i c _ _ _ _ _
      cases (c == Value.type "enumerate")
      · wp_walk using q1
        exact ⟨_, rfl, h⟩
      · wp_walk using q1
        exact ⟨_, rfl, h⟩
    · wp_walk using q1
      exact ⟨_, rfl, h⟩
theorem enum_begins1 {prog : Program} {w : World} {A : Around} {E : Value → Shared → Prop} {s : Shared} {v : Value} {o : Obj} {H : Heap → Prop} {Q : Value → Shared → Prop} (B : Begins v o H) (h1 : H s.heap)
    (h : ∀ h', IsEnum h' (s.heap.objs.size + 1) s.heap.objs.size 0 .none → h'.get? s.heap.objs.size = some o → h'.objs.size = s.heap.objs.size + 2 →
      (∀ b o, s.heap.get? b = some o → h'.get? b = some o) → Q (.ref (s.heap.objs.size + 1)) { s with heap := h' }) :
    wpAny (model prog w) A (call (.type "enumerate") [v]) Q E s := by
  refine callType_new F.called_enumerate (by decide) (F.typeCall_enumerate_1 _) (F.newCall_enumerate_1 _) (fun obj => F.args_object_init_2 obj _) F.entry_enumerate_new
    (meets_enum1 B) ⟨h1, ?_⟩
  have hz : (s.heap.push o).objs.size = s.heap.objs.size + 1 := Heap.size_push ..
  show _ ∧ _
  rw [hz]
  have he : IsEnum ((s.heap.push o).push { cls := .type "enumerate", data := .fields #[.none, .bool false, .ref s.heap.objs.size, rawInt 0, .none, .none] }) (s.heap.objs.size + 1) s.heap.objs.size 0 .none := by
    have := Heap.get?_push_size (s.heap.push o) (o := { cls := .type "enumerate", data := .fields #[.none, .bool false, .ref s.heap.objs.size, rawInt 0, .none, .none] }) rfl
    rw [hz] at this; exact this
  refine ⟨⟨_, he, rfl⟩, h _ he (Heap.get?_push_of_some _ (Heap.get?_push_size _ B.free)) (by rw [Heap.size_push, hz]) fun b o x => Heap.get?_push_of_some _ (Heap.get?_push_of_some _ x)⟩
def IteT (K : PySem.W.Frag) (a : Addr) : It :=
  ⟨fun i H => ∃ (xs : List V), SqT K H a xs ∧ i < xs.length, fun i H v H' => ∃ T x, v = .ref T ∧ H T = none ∧ H' = upd H T (.tup [.int (i : Nat), x]) ∧ ∀ xs, SqT K H a xs → xs[i]? = some x, fun i H => ∃ xs : List V, SqT K H a xs ∧ i = xs.length⟩
theorem turn_enumT {P : Program} {w : World} {K : PySem.W.Frag} {elts : List Expr} {kk : Nat} {tpos : Pos} (a e it : Addr) (hne : e ≠ it) (hae : a ≠ e) (hai : a ≠ it) :
    Turn P w K (.Tuple elts kk tpos) (IteT K a) [e, it] e (fun i h => (∃ old, IsEnum h e it ((i : Nat) : Int) old) ∧ h.IsTupleIter it a i) where
  mem := by simp
  obj := fun i h st b hb => by
    obtain ⟨⟨old, he⟩, ⟨o, ho, hc, hd⟩⟩ := st
    have e' : b = e ∨ b = it := by simpa using hb
    rcases e' with z | z
    · rw [z]; exact ⟨_, he, fun v q => nomatch q⟩
    · rw [z]; exact ⟨o, ho, fun v q => by rw [hd] at q; cases q⟩
  keep := fun i h h' st k => let ⟨⟨old, he⟩, hi⟩ := st; ⟨⟨old, k e (by simp) _ he⟩, hi.at fun o q => k it (by simp) o q⟩
  item := by
    intro X hP hw hK hc i pins s σ H E I hf st hg
    subst hP hw hK
    obtain ⟨⟨old, he⟩, hit⟩ := st
    obtain ⟨xs, hq, hlt⟩ := hg
    obtain ⟨its, rv, p, hz⟩ := I.tuple hq
    obtain ⟨x, hx⟩ : ∃ x, xs[i]? = some x := ⟨xs[i], List.getElem?_eq_getElem hlt⟩
    obtain ⟨u, hu, ru⟩ := rv.get hx
    have hl := rv.length
    have hel : e < s.heap.objs.size := Heap.lt_size he
    have hil : it < s.heap.objs.size := by obtain ⟨_, q, _⟩ := hit; exact Heap.lt_size q
    have hh : X.A.in1.handled = none := I.ok.hd hc
    have D2 := Draws.tuple (prog := X.prog) (w := X.w) hh it a hai its.toArray
    have hef : e ∉ [it, a] := fun m => by
      rcases List.mem_cons.mp m with q | q
      · exact hne q
      · exact hae (List.mem_singleton.mp q).symm
    refine wpAny_pyNext_enum_itemD D2 he ⟨hit, p⟩ (by rw [List.size_toArray]; omega) hne hef fun x1 h' tk hx1 ho hit' hT hsz hk => ?_
    have ex1 : x1 = u := by
      have q : its.toArray[i]? = some x1 := hx1
      rw [List.getElem?_toArray, hu] at q
      exact (Option.some.inj q).symm
    subst ex1
    refine ⟨_, rfl, wpAny_letOwnedTupleGo_enum (s := { s with heap := h', toks := tk + 1 }) ho fun h'' he' sb => ?_⟩
    have hT2 : h''.get? s.heap.objs.size = some { cls := .type "tuple", data := .seq #[.int i tk, x1] } := (sb.2 _ (Nat.ne_of_gt hel)).trans hT
    have new : ObjOk X.prog X.w (upd H s.heap.objs.size (.tup [.int (i : Nat), x])) h'' s.heap.objs.size (.tup [.int (i : Nat), x]) :=
      ⟨by show 2 ≤ sizeLine; decide, [.int i tk, x1], .cons ⟨_, rfl⟩ (.cons ru .nil), ⟨_, hT2, rfl, _, rfl⟩⟩
    have I1 : Inv X pins σ (upd H s.heap.objs.size (.tup [.int (i : Nat), x])) { s with heap := h'', toks := tk + 1 } :=
      I.turnedNew (ch := [e, it]) (fun b ob hb q => (sb.2 b (fun z => hb (by simp [z]))).trans (hk b ob (fun z => hb (by simp [z])) (fun z => hb (by simp [z])) q)) hf (Nat.le_refl _) new
    refine ⟨.ref s.heap.objs.size, _, I1, rfl, ⟨_, x, rfl, I.hok.fresh (Nat.le_refl _), rfl, fun ys hy => by rw [I.tuple_inj hy hq]; exact hx⟩, ⟨⟨x1, ?_⟩, hit'.1.at fun o q => (sb.2 it (Ne.symm hne)).trans q⟩, fun b hb => ?_⟩
    · have e1 : ((i + 1 : Nat) : Int) = (i : Int) + 1 := by omega
      rw [e1]; exact he'
    · have hb' : b < s.heap.objs.size := by
        have e' : b = e ∨ b = it := by simpa using hb
        rcases e' with z | z
        · rw [z]; exact hel
        · rw [z]; exact hil
      rw [upd_ne (Nat.ne_of_lt hb')]
      exact (hf b hb).1
  done := by
    intro X hP hw hK hc i pins s σ H E I hf st hg
    subst hP hw hK
    obtain ⟨⟨old, he⟩, hit⟩ := st
    obtain ⟨xs, hq, rfl⟩ := hg
    obtain ⟨its, rv, p, hz⟩ := I.tuple hq
    have hl := rv.length
    obtain ⟨f0, f1, f2, f3, f4, f5⟩ := hf it (by simp)
    have hh : X.A.in1.handled = none := I.ok.hd hc
    have D2 := Draws.tuple (prog := X.prog) (w := X.w) hh it a hai its.toArray
    have e1 : its.toArray.size = xs.length := by rw [List.size_toArray]; omega
    refine wpAny_pyNext_enum_endD D2 he ⟨by rw [e1]; exact hit, p⟩ fun h' eb => ⟨rfl, I.turned (t' := s.toks) (fun b o hb q => eb b o hb q) f0 f1 f3 f4 f5⟩
  self := fun A i s Q E st h => let ⟨⟨_, he⟩, _⟩ := st; wpAny_pyIter_enum he h
def iEnumT (K : PySem.W.Frag) (ta : TA) : TI := fun σ H R => ta σ H fun vs H1 => ∃ a xs, vs = [.ref a] ∧ SqT K H1 a xs ∧ R (IteT K a) H1
theorem pi_enumT {X : Cx} {e : Expr} {ta : TA} {p pos tpos : Pos} {elts : List Expr} {kk : Nat} (hg : Gl X "enumerate") (hm : X.mg "enumerate" = none) (ha : PA X [e] ta) (hs : starEach [e] X.env = [(false, eval e X.env)] := by rfl) :
    PI X (.Tuple elts kk tpos) (.Call (.Name "enumerate" p) [e] [] pos) (iEnumT X.K ta) := by
  refine ⟨fun pins s σ H R I h => ?_⟩
  refine Call_ (ld_blt I hg hm boot_enumerate (PyProof.Rows.callWith_type1 (thn (ha.run pos pins s σ H _ I h) fun us s1 ⟨vs, H1, I1, r1, q1⟩ => ?_) hs rfl))
  obtain ⟨a, xs, ex, hq, q⟩ := q1
  subst ex
  cases r1 with
  | cons r rr =>
    cases rr
    cases r
    obtain ⟨its, rv, p', hz⟩ := I1.tuple hq
    obtain ⟨ob, ho2, _⟩ := id p'
    have hb : a < s1.heap.objs.size := Heap.lt_size ho2
    refine enum_begins1 (begins_tuple a its.toArray) p' fun h' he hit hsz hk => wpAny_pyIter_enum he ?_
    have I2 : Inv X pins σ H1 { s1 with heap := h' } := I1.kept (t' := s1.toks) hk
    refine ⟨s1.heap.objs.size + 1, [s1.heap.objs.size + 1, s1.heap.objs.size], _, _, H1, rfl, I2, turn_enumT a (s1.heap.objs.size + 1) s1.heap.objs.size (Nat.succ_ne_self _) (Nat.ne_of_lt (Nat.lt_succ_of_lt hb)) (Nat.ne_of_lt hb), ⟨⟨.none, he⟩, ⟨_, hit, rfl, rfl⟩⟩, fun b hb => ?_, q⟩
    have e' : b = s1.heap.objs.size + 1 ∨ b = s1.heap.objs.size := by simpa using hb
    have hle : s1.heap.objs.size ≤ b := by
      rcases e' with z | z
      · rw [z]; exact Nat.le_add_right _ _
      · rw [z]; exact Nat.le_refl _
    exact I1.fpOk hle (I1.hok.fresh hle)
theorem for_enumT {K : PySem.W.Frag} {a : Addr} {xs : List V} {g : TG} {tb : TS} {D : Ends} {σ : L2.St} {H : Hp} (Pv : Nat → L2.St → Hp → Prop) (h0 : Pv 0 σ H) (hq : ∀ i σ H, Pv i σ H → SqT K H a xs)
    (hs : ∀ (i : Nat) (x : V) (T : Addr) (σ : L2.St) (H : Hp), xs[i]? = some x → Pv i σ H → H T = none → g (.ref T) σ (upd H T (.tup [.int (i : Nat), x])) fun σ2 H2 => tb { D with nx := Pv (i + 1), ct := Pv (i + 1), bk := D.nx } σ2 H2) (hd : ∀ σ H, Pv xs.length σ H → D.nx σ H) :
    ∃ W : Nat → Nat → L2.St → Hp → Prop, (∃ m, W 0 m σ H) ∧ ∀ i m σ H, W i m σ H →
      ((IteT K a).stop i H ∧ D.nx σ H) ∨ ((IteT K a).go i H ∧ ∃ N : L2.St → Hp → Prop, (∀ σ' H', N σ' H' → ∃ m', m' < m ∧ W (i + 1) m' σ' H') ∧ ∀ v H', (IteT K a).yld i H v H' → g v σ H' fun σ2 H2 => tb { D with nx := N, ct := N, bk := D.nx } σ2 H2) := by
  refine ⟨fun i m σ H => m = xs.length - i ∧ i ≤ xs.length ∧ Pv i σ H, ⟨xs.length, rfl, Nat.zero_le _, h0⟩, ?_⟩
  rintro i m σ H ⟨rfl, hi, p⟩
  have hq' := hq i σ H p
  by_cases hlt : i < xs.length
  · refine .inr ⟨⟨xs, hq', hlt⟩, Pv (i + 1), fun σ' H' p' => ⟨xs.length - (i + 1), by omega, rfl, by omega, p'⟩, ?_⟩
    rintro v H' ⟨T, x, rfl, hT, rfl, e2⟩
    exact hs i x T σ H (e2 xs hq') p hT
  · have e : i = xs.length := by omega
    subst e
    exact .inl ⟨⟨xs, hq', rfl⟩, hd σ H p⟩
end Km
set_option Elab.async false
set_option linter.all false
set_option maxRecDepth 100000
set_option maxHeartbeats 4000000
/-! isinstance of a caught error that has a dict -/
namespace PySem.W
open PySem PySem.Calls PyProof.Rows PyProof.V
section
variable {prog : Program} {w : World} {A : Around} {E : Value → Shared → Prop} {s : Shared} {K : Frag} {x D : Addr} {ox : Obj} {od : Option Obj}
theorem km_kin_classE {Q : Option Value → Shared → Prop} (hga : findIn K (.ref D) "__getattribute__" = some (some (.builtin "BaseException.__getattribute__"))) (hgt : findIn K (.ref D) "__getattr__" = some none) (hsub : subIn K (.ref D) (.type "BaseException") = some true)
    (hf : findObj K D od "__class__" = some (.bind (.builtin "getset_descriptor.__get__") (.builtin "object.__class__"))) (hm : mroIn K D (.type "object") = some true)
    (X : K.In s.heap) (I : InstAt s.heap x ox D od) (h : Q (some (.ref D)) { s with toks := s.toks + 1 }) : wpAny (model prog w) A (getAttr? (.ref x) "__class__") Q E s := by
  obtain ⟨hp, g, d, t, os⟩ := s
  have L0 := I.type (M := model prog w)
  have L1 := looks_findIn (M := model prog w) X hga
  have L2 := looks_findIn (M := model prog w) X hgt
  have L3 := looks_find (M := model prog w) X I hf
  have sub : Looks (model prog w) hp (isInstance (.ref x) (.type "BaseException")) true := L0.andThen (looks_subIn X hsub)
  have hx0 : (false && onTheHeap (Value.builtin "BaseException.__getattribute__")) = false := rfl
  have hx2 : (Value.builtin "BaseException.__getattribute__" == Value.builtin "object.__getattribute__") = false := by decide +kernel
  have hx1 : (onTheHeap (Value.ref D) && Value.builtin "BaseException.__getattribute__" == Value.builtin "object.__getattribute__") = false := by rw [hx2]; rfl
  unfold getAttr? getAttrBy? getAttrBy
  refine wpAny_bind (wpAny_mkText (wpAny_bind (wpAny_attempt (wpAny_holding (wpAny_bind (L0.at (wpAny_bind (L1.at ?_))))))))
  show wpAny _ _ (if (onTheHeap (Value.ref D) && Value.builtin "BaseException.__getattribute__" == Value.builtin "object.__getattribute__") = true then _ else _) _ _ _
  rw [hx1, if_neg Bool.false_ne_true]
  unfold getAttrByItsOwn hookBefore
  refine wpAny_bind ?_
  rw [if_pos (show onTheHeap (Value.ref D) = true from rfl)]
  refine L2.at ?_
  refine wpAny_bind (wpAny_attempt (wpAny_holding ?_))
  unfold callGetattribute
  rw [hx0, if_neg Bool.false_ne_true]
  unfold boundAndCalled
  rw [PySem.F.excAttr_ValueError.ga.bind (.ref x)]
  refine wpAny_bind (wpAny_pure ?_)
  show wpAny _ _ (call (.builtin "BaseException.__getattribute__") [.ref x, .str "__class__" t]) _ _ _
  refine wpAny_call (codeAny_call_builtin PySem.F.excAttr_ValueError.ga.plain PySem.F.entry_bexc_ga ?_)
  refine @check_slot (model prog w) _ _ ⟨hp, g, d, t + 1, os⟩ "BaseException.__getattribute__" "BaseException" "__getattribute__" (.ref x) [.str "__class__" t] [] _ (by decide +kernel) (by decide +kernel) sub (PySem.F.args_bexc_ga (.ref x) (.str "__class__" t)) ?_
  unfold Builtin.«object.__getattribute__»
  refine wpAny_bind (wpAny_of_eq (a := ((Value.ref x : Value), [Value.str "__class__" t])) (by first | rfl | (simp only [slotArgs]; rfl)) ?_)
  refine wpAny_bind (wpAny_pure (wpAny_bind (L0.at (wpAny_bind (L3.at ?_)))))
  show wpAny _ _ (holding [Value.builtin "object.__class__"] (call (.builtin "getset_descriptor.__get__") [.builtin "object.__class__", .ref x, .ref D]) >>= ret) _ _ _
  refine wpAny_bind (wpAny_holding (wpAny_call (class_get (s := ⟨hp, g, d, t + 1, os⟩) (ox := ox) (od := od) X I hm ?_)))
  refine wpAny_pure ?_
  show wpAny _ _ (handedOut (.ref D)) _ _ _
  rw [handedOut_of (v := .ref D) rfl]
  first
    | exact wpAny_pure (wpAny_pure h)
    | exact wpAny_pure h
    | exact wpAny_pure (wpAny_bind (wpAny_pure (wpAny_pure h)))
theorem km_kitx_exc (hga : findIn K (.ref D) "__getattribute__" = some (some (.builtin "BaseException.__getattribute__"))) (hgt : findIn K (.ref D) "__getattr__" = some none) (hsub : subIn K (.ref D) (.type "BaseException") = some true) (hdct : hasDictIn K D = true)
    (hf : findObj K D od "__class__" = some (.bind (.builtin "getset_descriptor.__get__") (.builtin "object.__class__"))) (hm : mroIn K D (.type "object") = some true) :
    KitX K (.ref x) (.ref D) (fun h => InstAt h x ox D od) where
  ty := fun _ _ _ I => I.type
  it := fun _ _ X _ => by
    obtain ⟨cdD, hcD, _⟩ := any_some hdct
    unfold clsIn at hcD
    split at hcD
    · rename_i c' d' cd' sl' ho
      intro A' Q' E' s' k q
      unfold isType loadHead
      exact wpAny_bind (wpAny_loadPart (k _ _ (X _ _ ho)) (wpAny_pure q))
    · cases hcD
  ne := fun h tp dd its n sl X htp => by
    obtain ⟨cdD, hcD, _⟩ := any_some hdct
    refine Bool.eq_false_iff.mpr fun q => ?_
    have e : D = tp := Value.ref.inj (beq_iff_eq.mp q)
    subst e
    unfold clsIn at hcD
    split at hcD
    · rename_i c' d' cd' sl' ho
      have z := (X _ _ ho).symm.trans htp
      cases z
    · cases hcD
  ca := fun X I k => km_kin_classE hga hgt hsub hf hm X I k
end
end PySem.W
namespace Km
open PySem PySem.Spec PyProof.Rows L2
/-- isinstance(e, c), e the caught error, of the class at D with the dict d -/
def rIsE (K : PySem.W.Frag) (D a : Addr) (cls : Value) (d : Option Addr) : List V → Hp → VK → Prop := fun xs H Q => ∃ (c : V) (cv : Value) (b : Bool) (dd : Addr) (fs : List (Str × V)), xs = [.ref a, c] ∧ cls = .ref D ∧ d = some dd ∧ H dd = some (.xd fs) ∧ (∀ u, RelV c u → u = cv) ∧ PySem.W.kitOne K (.ref D) cv = some b ∧ Q (.bl b) H
theorem call_isE {X : Cx} {a D : Addr} {oe : Obj} {cls : Value} {d : Option Addr} {pn : List (Addr × Obj)} (C : ExcC X.K D) (hz : Zc cls d oe) (hf : ∃ vs, oe.data = .fields vs) : CallR (X.suite a ((a, oe) :: pn)) (.builtin "isinstance") (rIsE X.K D a cls d) := by
  intro pins s σ H xs us Q I r h
  obtain ⟨c, cv, b, dd, fs, rfl, rfl, rfl, ea, hcv, e, q⟩ := h
  cases r with
  | cons rx rr =>
    cases rr with
    | cons rt rr =>
      cases rr
      cases rx
      have ec := hcv _ rt
      subst ec
      obtain ⟨hget, _⟩ := I.pin (a, oe) (List.mem_append.mpr (.inl List.mem_cons_self))
      obtain ⟨vs, hv⟩ := hf
      have hx : ObjOk X.prog X.w H s.heap dd (.xd fs) := I.hok dd _ ea
      obtain ⟨mA, hns, hr⟩ := hx
      obtain ⟨od, ho, hl⟩ := lookIn_ns hns
      have J : PySem.W.InstAt s.heap a oe D (some od) := ⟨hget, hz.1, by unfold PySem.W.notCls; rw [hv] <;> rfl, by rw [hz.2]; exact ho⟩
      have hc : (PySem.W.clsIn X.K D).isSome = true := by
        obtain ⟨cd, hc, _⟩ := PySem.W.any_some C.hd
        rw [hc]
        rfl
      exact PySem.W.kia_one (PySem.W.km_kitx_exc C.hg C.hk C.hs C.hd (PySem.W.findObj_data hc C.ha C.hn C.ht) C.hm) I.kIn J e (fun z => nomatch z) fun tk => ⟨.bl b, H, I.kept (t' := tk) fun _ _ z => z, rfl, q⟩
end Km
set_option Elab.async false
set_option linter.all false
set_option maxRecDepth 100000
set_option maxHeartbeats 4000000
/-! len, in, == of own instances; properties by a promise -/
namespace Km
open PySem PySem.Spec PyProof.Rows L2
section
variable {X : Cx} {CX : CXT} {k j : Nat} {C : Addr} {sp : Sp} {E : XK}
theorem run_in1 {f : Addr} {fd : FuncData} {ps : List Str} {pins : List (Addr × Obj)} {σ : L2.St} {H : Hp} {s : Shared} {Q : VK} {us : List Value} {vs : List V} (F : FnOk X.prog X.w X.K X.mg X.base CX k f fd ps sp) (hr : Room (k + 1) X.A) (hb : Binds X.K fd ps []) (hx : Passes CX X E)
    (I : Inv X pins σ H s) (r : Vals vs us) (h : sp vs H Q E) : wpAny (model X.prog X.w) X.A.in1 (call (.ref f) us) (EP X pins σ Q) X.xe s := by
  have hl : us.length = ps.length := by rw [← r.length]; exact F.len _ _ _ _ h
  have b := hb s us I.kIn (by rw [List.append_nil]; exact hl)
  rw [List.append_nil] at b
  refine wpAny_call (codeAny_mono (F.run X.A.in1 X.stack s H ⟨us, []⟩ us vs Q E hr.in1 I.env0.in1 b r h) fun r s' hq => ?_)
  cases r with
  | error e => exact hx pins σ H s e s' I hq
  | ok fl =>
    cases fl with
    | ret u => exact I.after hq
    | next => exact False.elim hq
    | brk => exact False.elim hq
    | cont => exact False.elim hq
/-- len(o), o of a class with its own __len__ -/
def rLenOwn (C : Addr) (sp : Sp) (E : XK) : List V → Hp → VK → Prop := fun vs H Q => ∃ a dx fs, vs = [.ref a] ∧ H a = some (.ins C dx fs) ∧ sp [.ref a] H (fun v H' => ∃ n : Nat, v = .int (n : Int) ∧ n < 2 ^ 63 ∧ Q v H') E
theorem call_lenOwn (c : MetX CX X.prog X.w X.K X.mg X.base k C "__len__" sp) (hr : Room j X.A) (hx : Passes CX X E) (hk : k + 1 ≤ j := by decide) : CallR X (.builtin "len") (rLenOwn C sp E) := by
  intro pins s σ H xs us Q I r h
  obtain ⟨f, fd, ps, F, g, b⟩ := c
  obtain ⟨a, dx, fs, rfl, ea, q⟩ := h
  obtain ⟨u, rfl, ru⟩ := r.one
  cases ru
  obtain ⟨mA, O, _, _, _, _⟩ := ins_get I.hok ea
  obtain ⟨od, J, _⟩ := O.look
  obtain ⟨m, hF⟩ := I.fr
  refine PySem.W.len_K hF I.ok.mod.kin J g.at_ g.fn (wpAny_mono (run_in1 F (hr.mono hk) b hx I (us := [.ref a]) (vs := [.ref a]) (.cons rfl .nil) q) (fun v s' hv => ?_) fun _ _ z => z)
  obtain ⟨v', H', I', rv, n, ev, hn, q'⟩ := hv
  subst ev
  obtain ⟨t, rfl⟩ := rv
  exact ⟨⟨by omega, by omega⟩, ⟨.int (n : Int), H', I'.tok _, ⟨_, rfl⟩, q'⟩⟩
/-- v in o -/
def rInOwn (C : Addr) (sp : Sp) (E : XK) : R2 := fun x y H Q => ∃ a dx fs, y = .ref a ∧ H a = some (.ins C dx fs) ∧ sp [.ref a, x] H (fun v H' => ∃ c : Bool, v = .bl c ∧ Q v H') E
theorem op_inOwn (c : MetX CX X.prog X.w X.K X.mg X.base k C "__contains__" sp) (hr : Room j X.A) (hx : Passes CX X E) (hk : k ≤ j := by decide) : OpR X (compareOp .In) (rInOwn C sp E) := by
  intro pins s σ H x y v u Q I rx ry h
  obtain ⟨f, fd, ps, F, g, b⟩ := c
  obtain ⟨a, dx, fs, rfl, ea, q⟩ := h
  cases ry
  obtain ⟨mA, O, _, _, _, _⟩ := ins_get I.hok ea
  obtain ⟨od, J, _⟩ := O.look
  obtain ⟨m, hF⟩ := I.fr
  refine PySem.W.in_K hF I.ok.mod.kin J g.at_ g.fn (wpAny_mono (run_fn F (hr.mono hk) b .nil hx I (us := [.ref a, v]) (vs := [.ref a, x]) (.cons rfl (.cons rx .nil)) q) (fun r s' hv => ?_) fun _ _ z => z)
  obtain ⟨v', H', I', rv, c, ev, q'⟩ := hv
  subst ev
  cases rv
  exact wpAny_truthy_bool ⟨.bl c, H', I', rfl, q'⟩
/-- o == a text -/
def rEqOwn (K : PySem.W.Frag) (C : Addr) (sp : Sp) (E : XK) : R2 := fun x y H Q => ∃ a dx fs z, x = .ref a ∧ y = .str z ∧ H a = some (.ins C dx fs) ∧ PySem.W.notFirst K C (.type "str") = true ∧ sp [.ref a, .str z] H (fun v H' => ∃ c : Bool, v = .bl c ∧ Q v H') E
theorem op_eqOwn (c : MetX CX X.prog X.w X.K X.mg X.base k C "__eq__" sp) (hr : Room j X.A) (hx : Passes CX X E) (hk : k ≤ j := by decide) : OpR X (compareOp .Eq) (rEqOwn X.K C sp E) := by
  intro pins s σ H x y v u Q I rx ry h
  obtain ⟨f, fd, ps, F, g, b⟩ := c
  obtain ⟨a, dx, fs, z, rfl, rfl, ea, hn, q⟩ := h
  cases rx
  obtain ⟨t, rfl⟩ := ry
  obtain ⟨mA, O, _, _, _, _⟩ := ins_get I.hok ea
  obtain ⟨od, J, _⟩ := O.look
  obtain ⟨m, hF⟩ := I.fr
  refine PySem.W.cmp_K (op := .Eq) (tb := .type "str") hr.units0 hF I.ok.mod.kin J (.of_pure rfl) hn g.at_ g.fn ?_
  refine wpAny_mono (run_fn F (hr.mono hk) b .nil hx I (us := [.ref a, .str z t]) (vs := [.ref a, .str z]) (.cons rfl (.cons ⟨t, rfl⟩ .nil)) q) (fun r s' hv => ?_) fun _ _ z => z
  obtain ⟨v', H', I', rv, c, ev, q'⟩ := hv
  subst ev
  cases rv
  exact ⟨.bl c, H', I', rfl, q'⟩
/-! ### properties -/
def PrpX (CX : CXT) (P : Program) (w : World) (K : PySem.W.Frag) (mg : Str → Option Value) (base : Heap) (k : Nat) (C : Addr) (f : Str) (sp : Sp) : Prop :=
  ∃ (p g : Addr) (fd : FuncData) (ps : List Str), FnOk P w K mg base CX k g fd ps sp ∧ PropOf K C f p g ∧ Binds K fd ps []
theorem pe_px {f : Str} {e : Expr} {ta : TE} {pos : Pos} (c : PrpX CX X.prog X.w X.K X.mg X.base k C f sp) (cl : Cls X.K C) (hr : Room j X.A) (hx : Passes CX X.nox E) (he : PE X e ta) (hk : k + 1 ≤ j := by decide)
    (hab : attributeBase e f X.env (eval e X.env) = eval e X.env := by rfl) : PE X (.Attribute e f pos) (tProp C sp [] E ta) := by
  obtain ⟨p, g, fd, ps, F, hp, b⟩ := c
  exact pe_prop he cl hp F (hr.mono hk) b .nil hx hab
end
end Km
set_option Elab.async false
set_option linter.all false
set_option maxRecDepth 100000
set_option maxHeartbeats 4000000
/-! defs by their facts -/
namespace Km
open PySem PySem.Spec PyProof.Rows L2
/-- a builtin's name is not the module's -/
structure Bt (mg : Str → Option Value) : Prop where
  isinstance_ : mg "isinstance" = none
  int_ : mg "int" = none
  bool_ : mg "bool" = none
  str_ : mg "str" = none
  tuple_ : mg "tuple" = none
  list_ : mg "list" = none
  len_ : mg "len" = none
  range_ : mg "range" = none
  zip_ : mg "zip" = none
  enumerate_ : mg "enumerate" = none
  sorted_ : mg "sorted" = none
  set_ : mg "set" = none
  all_ : mg "all" = none
  super_ : mg "super" = none

structure DefG (K : PySem.W.Frag) (mg : Str → Option Value) (x : Str) (st : Stmt) : Prop where
  ex : ∃ (f : Addr) (fd : FuncData), Dfn K x x st f fd ∧ mg x = some (.ref f)
structure MetG (K : PySem.W.Frag) (C : Addr) (m qual : Str) (st : Stmt) : Prop where
  ex : ∃ (f : Addr) (fd : FuncData), Dfn K m qual st f fd ∧ Meth K C m f
structure IniG (K : PySem.W.Frag) (mg : Str → Option Value) (x qual : Str) (C : Addr) (st : Stmt) : Prop where
  ex : ∃ (f : Addr) (fd : FuncData), Dfn K "__init__" qual st f fd ∧ mg x = some (.ref C) ∧ Mk K C f
structure PrpG (K : PySem.W.Frag) (C : Addr) (f qual : Str) (st : Stmt) : Prop where
  ex : ∃ (p g : Addr) (fd : FuncData), Dfn K f qual st g fd ∧ PropOf K C f p g
/-- its parameters are ps, without defaults -/
abbrev BindsH (x qual : Str) (st : Stmt) (ps : List Str) : Prop := ∀ (kV doc pm : Value) (an : Option Addr) (cdv ct : Value) (us : List Value), us.length = ps.length → bindArgs (PySem.W.fnOf x qual (defArgs st) (defBody st) (defScope st) .none kV doc pm an cdv ct) ⟨us, []⟩ = pure (ps.zip us)
/-- the body's walk -/
abbrev BodyH (CX : CXT) (P : Program) (w : World) (K : PySem.W.Frag) (mg : Str → Option Value) (base : Heap) (k : Nat) (N : List Str) (qual : Str) (st : Stmt) (sp : Sp) : Prop :=
  ∀ (f : Addr) (cdv : Value) (A : Around) (outer : List Env) (s : Shared) (H : Hp) (vs : List V) (Q : VK) (E : XK), Room k (A.deeper (envOfC qual (defScope st) s.heap.objs.size f cdv)) → sp vs H Q E →
    ∃ t, PSs (cxOf CX P w K mg base N qual (defScope st) f cdv A outer s H E) (defBody st) t ∧ t { nx := fun _ H' => Q .non H', rt := Q } (start N vs) H
section
variable {P : Program} {w : World} {K : PySem.W.Frag} {mg : Str → Option Value} {base : Heap} {CX : CXT} {N ps : List Str} {k : Nat} {sp : Sp} {x m qual : Str} {C : Addr} {st : Stmt}
theorem cal_of (D : DefG K mg x st) (S : FnScope N ps (defScope st)) (b : BindsH x x st ps) (len : ∀ vs H Q E, sp vs H Q E → vs.length = ps.length) (hb : BodyH CX P w K mg base k N x st sp) : CalX CX P w K mg base (k + 1) x sp := by
  obtain ⟨f, fd, F, g⟩ := D.ex
  exact ⟨f, fd, ps, F.ok S len fun cdv A outer s H vs Q E hr h => hb f cdv A outer s H vs Q E hr h, g, F.kp, F.bindsN b⟩
theorem met_of (D : MetG K C m qual st) (S : FnScope N ps (defScope st)) (b : BindsH m qual st ps) (len : ∀ vs H Q E, sp vs H Q E → vs.length = ps.length) (hb : BodyH CX P w K mg base k N qual st sp) : MetX CX P w K mg base (k + 1) C m sp := by
  obtain ⟨f, fd, F, g⟩ := D.ex
  exact ⟨f, fd, ps, F.ok S len fun cdv A outer s H vs Q E hr h => hb f cdv A outer s H vs Q E hr h, g, F.bindsN b⟩
theorem mak_of (D : IniG K mg x qual C st) (S : FnScope N ps (defScope st)) (b : BindsH "__init__" qual st ps) (len : ∀ vs H Q E, sp vs H Q E → vs.length = ps.length) (hb : BodyH CX P w K mg base k N qual st sp) : MakX CX P w K mg base (k + 1) x C sp := by
  obtain ⟨f, fd, F, g, M⟩ := D.ex
  exact ⟨f, fd, ps, F.ok S len fun cdv A outer s H vs Q E hr h => hb f cdv A outer s H vs Q E hr h, g, M, F.bindsN b⟩
theorem prp_of (D : PrpG K C m qual st) (S : FnScope N ps (defScope st)) (b : BindsH m qual st ps) (len : ∀ vs H Q E, sp vs H Q E → vs.length = ps.length) (hb : BodyH CX P w K mg base k N qual st sp) : PrpX CX P w K mg base (k + 1) C m sp := by
  obtain ⟨p, g, fd, F, hp⟩ := D.ex
  exact ⟨p, g, fd, ps, F.ok S len fun cdv A outer s H vs Q E hr h => hb g cdv A outer s H vs Q E hr h, hp, F.bindsN b⟩
end
theorem MetX.mono {CX : CXT} {P : Program} {w : World} {K : PySem.W.Frag} {mg : Str → Option Value} {base : Heap} {j k : Nat} {C : Addr} {m : Str} {sp : Sp} (c : MetX CX P w K mg base j C m sp) (h : j ≤ k) : MetX CX P w K mg base k C m sp := by
  obtain ⟨f, fd, ps, F, r⟩ := c
  exact ⟨f, fd, ps, F.mono h, r⟩
/-! ### making and calling within a try -/
section
variable {X : Cx} {CX : CXT} {k j n : Nat} {f C : Addr} {fd : FuncData} {ps ks : List Str} {sp : Sp} {E : L2.St → XK} {x : Str} {p pos : Pos} {e : Expr} {es : List Expr} {kws : List Keyword} {t tk : TA} {g : List Value → List Value → List Value} {gV : List V → List V → List V}
theorem run_makeS {pins : List (Addr × Obj)} {σ : L2.St} {H : Hp} {s : Shared} {Q : VK} {us : List Value} {vs : List V} (M : Mk X.K C f) (F : FnOk X.prog X.w X.K X.mg X.base CX k f fd ps sp) (hr : Room (k + 1) X.A) (hb : Binds X.K fd ps [])
    (hx : PassesAt CX X σ (E σ)) (I : Inv X pins σ H s) (r : Vals vs us)
    (h : ∀ x dx, H x = none → H dx = none → dx ≠ x → sp (.ref x :: vs) (upd (upd H dx (.own x)) x (.ins C dx [])) (fun v H2 => v = .non ∧ Q (.ref x) H2) (E σ)) :
    wpAny (model X.prog X.w) X.A (call (.ref C) us) (EP X pins σ Q) X.xe s := by
  have hq := h (s.heap.objs.size + 1) s.heap.objs.size (I.hok.fresh (Nat.le_succ _)) (I.hok.fresh (Nat.le_refl _)) (Nat.ne_of_lt (Nat.lt_succ_self _))
  have I2 := Inv.made (C := C) I
  have r2 : Vals (V.ref (s.heap.objs.size + 1) :: vs) (Value.ref (s.heap.objs.size + 1) :: us) := .cons rfl r
  have hl : (Value.ref (s.heap.objs.size + 1) :: us).length = ps.length := by
    rw [← r2.length]
    exact F.len _ _ _ _ hq
  have b := hb _ (Value.ref (s.heap.objs.size + 1) :: us) I2.kIn (by rw [List.append_nil]; exact hl)
  rw [List.append_nil] at b
  refine wpAny_call (make_map (f := f) I.kIn M.makes M.init (beq_iff_eq.mp M.fn) (codeAny_mono (F.run _ X.stack _ _ ⟨Value.ref (s.heap.objs.size + 1) :: us, []⟩ (Value.ref (s.heap.objs.size + 1) :: us) _ _ (E σ) (hr.make C us [])
    (I2.env0.make C us []) b r2 hq) fun r s' hq' => ?_))
  cases r with
  | error e => exact hx pins _ _ e s' I2 hq'
  | ok fl =>
    cases fl with
    | ret u =>
      obtain ⟨v, H', I3, rv, ev, q3⟩ := I2.after hq'
      subst ev
      exact ⟨rv, ⟨V.ref (s.heap.objs.size + 1), H', I3, rfl, q3⟩⟩
    | next => exact False.elim hq'
    | brk => exact False.elim hq'
    | cont => exact False.elim hq'
def tMakeS (C : Addr) (sp : Sp) (E : L2.St → XK) (t : TA) : TE := fun σ H Q => t σ H fun vs H1 => ∀ x dx, H1 x = none → H1 dx = none → dx ≠ x → sp (.ref x :: vs) (upd (upd H1 dx (.own x)) x (.ins C dx [])) (fun v H2 => v = .non ∧ Q (.ref x) H2) (E σ)
theorem pe_kxS (c : MakX CX X.prog X.w X.K X.mg X.base k x C sp) (hr : Room j X.A) (hx : ∀ σ, PassesAt CX X σ (E σ)) (hg : Gl X x) (ha : PA X (e :: es) t) (hk : k + 1 ≤ j := by decide) (hdb : (x == ("__debug__" : Str)) = false := by decide)
    (he : starEach (e :: es) X.env = (false, eval e X.env) :: starEach es X.env := by rfl) (hpl : (backTo pos (starEach es X.env)).any (·.1) = false := by rfl) : PE X (.Call (.Name x p) (e :: es) [] pos) (tMakeS C sp E t) := by
  obtain ⟨f, fd, ps, F, g, M, b⟩ := c
  refine ⟨fun pins s σ H Q I h => ?_⟩
  refine wpAny_Call_Name_kw (ld_glob I hg g ?_ hdb)
  refine PySem.W.callWith_K (h₀ := X.base) I.ok.mod.kin M.kp (thn (ha.run pos pins s σ H _ I h) fun us s1 ⟨vs, H1, I1, r, q⟩ => ⟨I1.kIn, ?_⟩) he hpl
  exact run_makeS M F (hr.mono hk) b (hx σ) I1 r q
theorem pe_cxS (c : CalX CX X.prog X.w X.K X.mg X.base k x sp) (hr : Room j X.A) (hx : ∀ σ, PassesAt CX X σ (E σ)) (hg : Gl X x) (ha : PA X (e :: es) t) (hk : k ≤ j := by decide) (hdb : (x == ("__debug__" : Str)) = false := by decide)
    (he : starEach (e :: es) X.env = (false, eval e X.env) :: starEach es X.env := by rfl) (hpl : (backTo pos (starEach es X.env)).any (·.1) = false := by rfl) : PE X (.Call (.Name x p) (e :: es) [] pos) (tCallS sp E t) := by
  obtain ⟨f, fd, ps, F, g, kp, b⟩ := c
  exact pe_callS F (hr.mono hk) hg g kp b hx ha hdb he hpl
/-- C(e, .., k = v, ..) -/
theorem run_makeKS {pins : List (Addr × Obj)} {σ : L2.St} {H : Hp} {s : Shared} {Q : VK} {us ws : List Value} {vs zs : List V} (M : Mk X.K C f) (F : FnOk X.prog X.w X.K X.mg X.base CX k f fd ps sp) (hr : Room (k + 1) X.A) (hb : KBn X.K fd ps (n + 1) ks g gV) (hx : PassesAt CX X σ (E σ))
    (I : Inv X pins σ H s) (r : Vals vs us) (rz : Vals zs ws) (l1 : vs.length = n) (l2 : zs.length = ks.length)
    (h : ∀ x dx, H x = none → H dx = none → dx ≠ x → sp (gV (.ref x :: vs) zs) (upd (upd H dx (.own x)) x (.ins C dx [])) (fun v H2 => v = .non ∧ Q (.ref x) H2) (E σ)) :
    wpAny (model X.prog X.w) X.A (call (.ref C) us (ks.zip ws)) (EP X pins σ Q) X.xe s := by
  have hq := h (s.heap.objs.size + 1) s.heap.objs.size (I.hok.fresh (Nat.le_succ _)) (I.hok.fresh (Nat.le_refl _)) (Nat.ne_of_lt (Nat.lt_succ_self _))
  have I2 := Inv.made (C := C) I
  have r1 : Vals (V.ref (s.heap.objs.size + 1) :: vs) (Value.ref (s.heap.objs.size + 1) :: us) := .cons rfl r
  have r2 := hb.rel r1 rz
  have n1 : (Value.ref (s.heap.objs.size + 1) :: us).length = n + 1 := by
    rw [List.length_cons, ← r.length, l1]
  refine wpAny_call (make_map (f := f) I.kIn M.makes M.init (beq_iff_eq.mp M.fn) (codeAny_mono (F.run _ X.stack _ _ ⟨Value.ref (s.heap.objs.size + 1) :: us, ks.zip ws⟩ (g (Value.ref (s.heap.objs.size + 1) :: us) ws) _ _ (E σ) (hr.make C us (ks.zip ws))
    (I2.env0.make C us (ks.zip ws)) (hb.to _ (Value.ref (s.heap.objs.size + 1) :: us) ws I2.kIn n1 (rz.length.symm.trans l2)) r2 hq) fun r s' hq' => ?_))
  cases r with
  | error e => exact hx pins _ _ e s' I2 hq'
  | ok fl =>
    cases fl with
    | ret u =>
      obtain ⟨v, H', I3, rv, ev, q3⟩ := I2.after hq'
      subst ev
      exact ⟨rv, ⟨V.ref (s.heap.objs.size + 1), H', I3, rfl, q3⟩⟩
    | next => exact False.elim hq'
    | brk => exact False.elim hq'
    | cont => exact False.elim hq'
def tMakeKS (C : Addr) (n m : Nat) (sp : Sp) (gV : List V → List V → List V) (E : L2.St → XK) (t tk : TA) : TE := fun σ H Q => t σ H fun vs H1 => tk σ H1 fun zs H2 => vs.length = n ∧ zs.length = m ∧ ∀ x dx, H2 x = none → H2 dx = none → dx ≠ x →
  sp (gV (.ref x :: vs) zs) (upd (upd H2 dx (.own x)) x (.ins C dx [])) (fun v H3 => v = .non ∧ Q (.ref x) H3) (E σ)
theorem pe_makeKS (M : Mk X.K C f) (F : FnOk X.prog X.w X.K X.mg X.base CX k f fd ps sp) (hr : Room j X.A) (hg : Gl X x) (hm : X.mg x = some (.ref C)) (hb : KBn X.K fd ps (n + 1) ks g gV) (hx : ∀ σ, PassesAt CX X σ (E σ)) (ha : PA X (e :: es) t) (hkw : PK X kws tk) (hk : k + 1 ≤ j := by decide)
    (hall : (backToKw pos (keywordEach kws X.env)).all (·.1.isSome) = true := by rfl) (hks : (backToKw pos (keywordEach kws X.env)).filterMap (·.1) = ks := by rfl) (hdb : (x == ("__debug__" : Str)) = false := by decide)
    (he : starEach (e :: es) X.env = (false, eval e X.env) :: starEach es X.env := by rfl) (hpl : ((backTo pos (starEach (e :: es) X.env)).any (·.1) || (backToKw pos (keywordEach kws X.env)).any (·.1.isNone)) = false := by rfl) :
    PE X (.Call (.Name x p) (e :: es) kws pos) (tMakeKS C n ks.length sp gV E t tk) := by
  refine ⟨fun pins s σ H Q I h => ?_⟩
  refine wpAny_Call_Name_kw (ld_glob I hg hm ?_ hdb)
  refine PySem.W.callWith_KW (h₀ := X.base) I.ok.mod.kin M.kp hall (thn (ha.run pos pins s σ H _ I h) fun us s1 ⟨vs, H1, I1, r, q⟩ => ?_) hpl he
  refine thn (hkw.run pos pins s1 σ H1 _ I1 q) fun ws s2 ⟨zs, H2, I2, rz, l1, l2, q2⟩ => ⟨I2.kIn, ?_⟩
  rw [hks]
  exact run_makeKS M F (hr.mono hk) hb (hx σ) I2 r rz l1 l2 q2
end
/-! ### is_between -/
abbrev sBetween : Stmt := top 17
theorem scBetween : FnScope ["thing", "low", "high"] ["thing", "low", "high"] (defScope sBetween) := ⟨rfl, rfl, rfl, by decide +kernel, rfl, by decide +kernel, by decide +kernel⟩
def spBetween : Sp := fun vs H Q _ => ∃ a l h : Int, vs = [.int a, .int l, .int h] ∧ Q (.bl (decide (l ≤ a) && decide (a ≤ h))) H
theorem ok_between {P : Program} {w : World} {K : PySem.W.Frag} {mg : Str → Option Value} {base : Heap} (B : Bt mg) (D : DefG K mg "is_between" sBetween) : CalX CX0 P w K mg base 1 "is_between" spBetween := by
  refine cal_of D scBetween (fun _ _ _ _ _ _ us hl => match us, hl with | [_, _, _], _ => rfl) (fun vs H Q E ⟨a, l, h, e, _⟩ => by rw [e]; rfl) ?_
  rintro f cdv A outer s H vs Q E hr ⟨a, l, h, rfl, q⟩
  refine ⟨_, pss_one (ps_ret (pe_and (pe_callB call_isi (by rfl) B.isinstance_ (by decide +kernel) (pa_cons (pv 0) (pa_cons (pe_bltn (by rfl) B.int_ (by decide +kernel) (show RelV (.ty "int") _ from rfl)) pa_nil)))
    (pe_and (pe_not (pe_callB call_isi (by rfl) B.isinstance_ (by decide +kernel) (pa_cons (pv 0) (pa_cons (pe_bltn (by rfl) B.bool_ (by decide +kernel) (show RelV (.ty "bool") _ from rfl)) pa_nil))))
      (pe_one (pe_chain op_le op_le (pv 1) (pv 0) (pv 2)))))), ?_⟩
  refine ⟨_, rfl, .int a, _, _, _, true, rfl, .ty "int", .base (.int a), kit_ty (by decide +kernel), true, rfl, ?_⟩
  refine ⟨_, rfl, .int a, _, _, _, false, rfl, .ty "bool", .base (.int a), kit_ty (by decide +kernel), false, rfl, true, rfl, ?_⟩
  refine ⟨_, rfl, _, rfl, l, a, rfl, rfl, decide (l ≤ a), rfl, ?_⟩
  by_cases c : l ≤ a
  · rw [if_pos (by simpa using c)]
    refine ⟨_, rfl, a, h, rfl, rfl, ?_⟩
    have q' := q
    rw [show decide (l ≤ a) = true by simpa using c, Bool.true_and] at q'
    exact q'
  · rw [if_neg (by simpa using c)]
    have q' := q
    rw [show decide (l ≤ a) = false by simpa using c, Bool.false_and] at q'
    exact q'
end Km
set_option Elab.async false
set_option linter.all false
set_option maxRecDepth 100000
set_option maxHeartbeats 4000000
/-! trees by their rows -/
namespace Km
open PySem PySem.Spec PyProof.Rows L2
def Tr.word : Tr → Str
  | .num _ => "number" | .given => "given" | .setting => "setting" | .col _ => "column" | .kept _ => "kept" | .call _ _ => "call" | .bin o _ _ => o.word | .whn _ _ _ => "when"
/-- its parts behind the word, each with its sign -/
def Tr.row : Tr → List (Nat × (Nat ⊕ Tr))
  | .num n => [(110, .inl n)]
  | .col n => [(99, .inl n)]
  | .kept n => [(99, .inl n)]
  | .call n a => [(110, .inl n), (102, .inr a)]
  | .bin _ a b => [(102, .inr a), (102, .inr b)]
  | .whn t a b => [(102, .inr t), (102, .inr a), (102, .inr b)]
  | _ => []
def asz : Nat ⊕ Tr → Nat
  | .inl _ => 0
  | .inr t => t.size
def apr : Nat ⊕ Tr → List Tr
  | .inl _ => []
  | .inr t => t.parts
def ArgAt (H : Hp) : Nat ⊕ Tr → V → Prop
  | .inl n, v => v = .int (n : Int)
  | .inr t, v => TreeAt H t v
def ArgOk (d : Nat) : Nat × (Nat ⊕ Tr) → Prop
  | (c, .inl n) => (c = 110 ∧ n ≤ 2) ∨ (c = 99 ∧ n ≤ 1)
  | (c, .inr s) => c = 102 ∧ s.wf = true ∧ s.depth ≤ d
theorem Tr.size_row (t : Tr) : t.size = 1 + (t.row.map fun p => asz p.2).sum := by
  cases t <;> simp [Tr.size, Tr.row, asz] <;> omega
theorem Tr.parts_row (t : Tr) : t.parts = t :: t.row.flatMap fun p => apr p.2 := by
  cases t <;> simp [Tr.parts, Tr.row, apr]
theorem Tr.row_ok {t : Tr} {d : Nat} (hw : t.wf = true) (hd : t.depth ≤ d + 1) : ∀ p ∈ t.row, ArgOk d p := by
  intro p hp
  cases t <;> simp only [Tr.row, List.mem_cons, List.not_mem_nil, or_false] at hp <;> simp only [Tr.wf, Bool.and_eq_true, decide_eq_true_eq, Tr.depth] at hw hd
  case num n => subst hp; exact .inl ⟨rfl, hw⟩
  case col n => subst hp; exact .inr ⟨rfl, hw⟩
  case kept n => subst hp; exact .inr ⟨rfl, hw⟩
  case call n a =>
    rcases hp with rfl | rfl
    · exact .inl ⟨rfl, hw.1⟩
    · exact ⟨rfl, hw.2, by omega⟩
  case bin o a b =>
    rcases hp with rfl | rfl
    · exact ⟨rfl, hw.1, by omega⟩
    · exact ⟨rfl, hw.2, by omega⟩
  case whn a b c =>
    rcases hp with rfl | rfl | rfl
    · exact ⟨rfl, hw.1, by omega⟩
    · exact ⟨rfl, hw.2.1, by omega⟩
    · exact ⟨rfl, hw.2.2, by omega⟩
theorem TreeAt.row {H : Hp} {t : Tr} {v : V} (h : TreeAt H t v) : ∃ a xs, v = .ref a ∧ H a = some (.tup (.str t.word :: xs)) ∧ xs.length = t.row.length ∧ ∀ (i : Nat) (p : Nat × (Nat ⊕ Tr)) (x : V), t.row[i]? = some p → xs[i]? = some x → ArgAt H p.2 x := by
  cases t
  case num n =>
    obtain ⟨a, rfl, e⟩ := h
    refine ⟨a, _, rfl, e, rfl, fun i p x h1 h2 => ?_⟩
    match i with
    | 0 => cases h1; cases h2; exact rfl
    | i + 1 => cases h1
  case given =>
    obtain ⟨a, rfl, e⟩ := h
    exact ⟨a, _, rfl, e, rfl, fun i p x h1 h2 => by cases h1⟩
  case setting =>
    obtain ⟨a, rfl, e⟩ := h
    exact ⟨a, _, rfl, e, rfl, fun i p x h1 h2 => by cases h1⟩
  case col n =>
    obtain ⟨a, rfl, e⟩ := h
    refine ⟨a, _, rfl, e, rfl, fun i p x h1 h2 => ?_⟩
    match i with
    | 0 => cases h1; cases h2; exact rfl
    | i + 1 => cases h1
  case kept n =>
    obtain ⟨a, rfl, e⟩ := h
    refine ⟨a, _, rfl, e, rfl, fun i p x h1 h2 => ?_⟩
    match i with
    | 0 => cases h1; cases h2; exact rfl
    | i + 1 => cases h1
  case call n t =>
    obtain ⟨a, x, rfl, e, h⟩ := h
    refine ⟨a, _, rfl, e, rfl, fun i p x h1 h2 => ?_⟩
    match i with
    | 0 => cases h1; cases h2; exact rfl
    | 1 => cases h1; cases h2; exact h
    | i + 2 => cases h1
  case bin o t u =>
    obtain ⟨a, x, y, rfl, e, h, h'⟩ := h
    refine ⟨a, _, rfl, e, rfl, fun i p x h1 h2 => ?_⟩
    match i with
    | 0 => cases h1; cases h2; exact h
    | 1 => cases h1; cases h2; exact h'
    | i + 2 => cases h1
  case whn t u r =>
    obtain ⟨a, x, y, z, rfl, e, h, h', h''⟩ := h
    refine ⟨a, _, rfl, e, rfl, fun i p x h1 h2 => ?_⟩
    match i with
    | 0 => cases h1; cases h2; exact h
    | 1 => cases h1; cases h2; exact h'
    | 2 => cases h1; cases h2; exact h''
    | i + 3 => cases h1
theorem ArgAt.tups {H H' : Hp} (s : Tups H H') {p : Nat ⊕ Tr} {v : V} (h : ArgAt H p v) : ArgAt H' p v := by
  cases p with
  | inl n => exact h
  | inr t => exact TreeAt.tups s h
theorem tups_lst {H : Hp} {l : Addr} {xs ys : List V} (h : H l = some (.lst xs)) : Tups H (upd H l (.lst ys)) := fun b zs e => by
  rw [upd_ne (ne_of e h (by intro z; cases z))]
  exact e
theorem same_new {H H' : Hp} {l : Addr} {o : HO} (s : Same H H') (h : H l = none) : Same H (upd H' l o) := fun b u e => by
  rw [upd_ne (ne_of_none e h)]
  exact s _ _ e
theorem TreesAt.tups {H H' : Hp} (s : Tups H H') {ts : List Tr} {xs : List V} (h : Paired (TreeAt H) ts xs) : Paired (TreeAt H') ts xs := L2.Paired.mapP h fun _ _ => TreeAt.tups s
theorem Paired.app {α β : Type} {R : α → β → Prop} : ∀ {a c : List α} {b d : List β}, Paired R a b → Paired R c d → Paired R (a ++ c) (b ++ d)
  | _, _, _, _, .nil, h => h
  | _, _, _, _, .cons x y, h => .cons x (Paired.app y h)
theorem Paired.at {α β : Type} {R : α → β → Prop} : ∀ {a : List α} {b : List β}, Paired R a b → ∀ {i : Nat} {x : α} {y : β}, a[i]? = some x → b[i]? = some y → R x y
  | _, _, .cons h _, 0, _, _, e1, e2 => by cases e1; cases e2; exact h
  | _, _, .cons _ t, i + 1, _, _, e1, e2 => Paired.at t (i := i) e1 e2
theorem Paired.takeP {α β : Type} {R : α → β → Prop} : ∀ {a : List α} {b : List β}, Paired R a b → ∀ n, Paired R (a.take n) (b.take n)
  | _, _, _, 0 => .nil
  | _, _, .nil, _ + 1 => .nil
  | _, _, .cons h t, n + 1 => .cons h (Paired.takeP t n)
theorem Paired.len {α β : Type} {R : α → β → Prop} {a : List α} {b : List β} (h : Paired R a b) : a.length = b.length := PySem.Paired.length h
theorem cutV_from (xs : List V) (k : Nat) (h : k ≤ xs.length) : cutV xs (some (k : Int)) none = xs.drop k := by
  unfold cutV
  rw [HT.sIx_nat, HT.sIx_none, Nat.min_eq_left h, List.take_of_length_le (by rw [List.length_drop]; exact Nat.le_refl _)]
theorem cutV_to (xs : List V) (k : Nat) (h : k ≤ xs.length) : cutV xs none (some (k : Int)) = xs.take k := by
  unfold cutV
  rw [HT.sIx_nat, HT.sIx_none, Nat.min_eq_left h, List.drop_zero, Nat.sub_zero]
/-- t[1:] of what isn't empty is no whole -/
theorem not_whole {α : Type} (x : α) (xs : List α) : ¬ (HT.sIx (x :: xs).length 0 (some (1 : Int)) = 0 ∧ HT.sIx (x :: xs).length (x :: xs).length none = (x :: xs).length) := by
  rw [show (1 : Int) = ((1 : Nat) : Int) from rfl, HT.sIx_nat, Nat.min_eq_left (by simp)]
  exact fun h => absurd h.1 (by decide)
/-! ### comprehensions that leave all as it is -/
section
variable {K : PySem.W.Frag} {a : Addr} {xs : List V} {g : TG} {tt : TT} {te : TE} {vs : List Nat} {σ : L2.St} {H1 : Hp} {D : Addr} {Qd : Hp → Prop} {α : Type}
theorem fm_snoc {f : α → Option V} {ys : List α} {i : Nat} {y : α} (h : ys[i]? = some y) : (ys.take (i + 1)).filterMap f = (ys.take i).filterMap f ++ (f y).toList := by
  rw [List.take_add_one, h, List.filterMap_append]
  cases e : f y <;> simp [e]
theorem lc_listS (hD : H1 D = none) (hx : SqL K H1 a xs) (ys : List α) (hl : xs.length = ys.length) (hz : ys.length < sizeLine) (f : α → Option V)
    (hs : ∀ (i : Nat) (x : V) (y : α) (H' : Hp) (R : Hp → Prop) (Rz : VK), xs[i]? = some x → ys[i]? = some y → Same H1 H' → (∀ H4, f y = none → Same H' H4 → R H4) → (∀ z H4, f y = some z → Same H' H4 → Rz z H4) →
      g x (wipe σ vs) H' fun σ2 H2 => wipe σ2 vs = wipe σ vs ∧ tt σ2 H2 fun b H3 => if b = true then te σ2 H3 Rz else R H3)
    (hd : ∀ H', Same H1 H' → H' D = some (.lst (ys.filterMap f)) → Qd H') :
    ∃ W : Nat → Nat → Hp → Prop, (∃ m, W 0 m (upd H1 D (.lst []))) ∧ ∀ i m H, W i m H →
      ((Itl K a).stop i H ∧ Qd H) ∨ ((Itl K a).go i H ∧ ∃ Nx : Hp → Prop, (∀ H', Nx H' → ∃ m', m' < m ∧ W (i + 1) m' H') ∧ ∀ x H', (Itl K a).yld i H x H' → g x (wipe σ vs) H' fun σ2 H2 => wipe σ2 vs = wipe σ vs ∧ tt σ2 H2 fun b H3 =>
        if b = true then te σ2 H3 fun y H4 => ∃ acc, H4 D = some (.lst acc) ∧ acc.length < sizeLine ∧ Nx (upd H4 D (.lst (acc ++ [y]))) else Nx H3) := by
  refine lc_list (xs := xs) (fun i H' => Same H1 H' ∧ H' D = some (.lst ((ys.take i).filterMap f))) ⟨same_upd hD, upd_same⟩ (fun i H' _ h => h.1.seq hx) ?_ ?_
  · rintro i x H' hi ⟨s1, hq⟩
    have hlt : i < ys.length := by rw [← hl]; exact (List.getElem?_eq_some_iff.mp hi).1
    have hy : ys[i]? = some ys[i] := List.getElem?_eq_getElem hlt
    refine hs i x _ H' _ _ hi hy s1 (fun H3 e s2 => ⟨s1.trans s2, ?_⟩) (fun z H4 e s2 => ⟨_, s2 _ _ hq, ?_, same_new (s1.trans s2) hD, ?_⟩)
    · rw [fm_snoc hy, e]
      simpa using s2 _ _ hq
    · have := List.length_filterMap_le f (ys.take i)
      rw [List.length_take] at this
      omega
    · rw [upd_same, fm_snoc hy, e]
      rfl
  · rintro H' ⟨s1, hq⟩
    rw [hl, List.take_length] at hq
    exact hd H' s1 hq
theorem lc_tupS (hD : H1 D = none) (hx : SqT K H1 a xs) (ys : List α) (hl : xs.length = ys.length) (hz : ys.length < sizeLine) (f : α → Option V)
    (hs : ∀ (i : Nat) (x : V) (y : α) (H' : Hp) (R : Hp → Prop) (Rz : VK), xs[i]? = some x → ys[i]? = some y → Same H1 H' → (∀ H4, f y = none → Same H' H4 → R H4) → (∀ z H4, f y = some z → Same H' H4 → Rz z H4) →
      g x (wipe σ vs) H' fun σ2 H2 => wipe σ2 vs = wipe σ vs ∧ tt σ2 H2 fun b H3 => if b = true then te σ2 H3 Rz else R H3)
    (hd : ∀ H', Same H1 H' → H' D = some (.lst (ys.filterMap f)) → Qd H') :
    ∃ W : Nat → Nat → Hp → Prop, (∃ m, W 0 m (upd H1 D (.lst []))) ∧ ∀ i m H, W i m H →
      ((Itt K a).stop i H ∧ Qd H) ∨ ((Itt K a).go i H ∧ ∃ Nx : Hp → Prop, (∀ H', Nx H' → ∃ m', m' < m ∧ W (i + 1) m' H') ∧ ∀ x H', (Itt K a).yld i H x H' → g x (wipe σ vs) H' fun σ2 H2 => wipe σ2 vs = wipe σ vs ∧ tt σ2 H2 fun b H3 =>
        if b = true then te σ2 H3 fun y H4 => ∃ acc, H4 D = some (.lst acc) ∧ acc.length < sizeLine ∧ Nx (upd H4 D (.lst (acc ++ [y]))) else Nx H3) := by
  refine lc_tup (xs := xs) (fun i H' => Same H1 H' ∧ H' D = some (.lst ((ys.take i).filterMap f))) ⟨same_upd hD, upd_same⟩ (fun i H' _ h => Same.tupT h.1 hx) ?_ ?_
  · rintro i x H' hi ⟨s1, hq⟩
    have hlt : i < ys.length := by rw [← hl]; exact (List.getElem?_eq_some_iff.mp hi).1
    have hy : ys[i]? = some ys[i] := List.getElem?_eq_getElem hlt
    refine hs i x _ H' _ _ hi hy s1 (fun H3 e s2 => ⟨s1.trans s2, ?_⟩) (fun z H4 e s2 => ⟨_, s2 _ _ hq, ?_, same_new (s1.trans s2) hD, ?_⟩)
    · rw [fm_snoc hy, e]
      simpa using s2 _ _ hq
    · have := List.length_filterMap_le f (ys.take i)
      rw [List.length_take] at this
      omega
    · rw [upd_same, fm_snoc hy, e]
      rfl
  · rintro H' ⟨s1, hq⟩
    rw [hl, List.take_length] at hq
    exact hd H' s1 hq
theorem lc_rangeS {lo : Int} {n : Nat} (hD : H1 D = none) (hz : n < sizeLine) (f : Nat → Option V)
    (hs : ∀ (i : Nat) (H' : Hp) (R : Hp → Prop) (Rz : VK), i < n → Same H1 H' → (∀ H4, f i = none → Same H' H4 → R H4) → (∀ z H4, f i = some z → Same H' H4 → Rz z H4) →
      g (.int (lo + i)) (wipe σ vs) H' fun σ2 H2 => wipe σ2 vs = wipe σ vs ∧ tt σ2 H2 fun b H3 => if b = true then te σ2 H3 Rz else R H3)
    (hd : ∀ H', Same H1 H' → H' D = some (.lst ((List.range n).filterMap f)) → Qd H') :
    ∃ W : Nat → Nat → Hp → Prop, (∃ m, W 0 m (upd H1 D (.lst []))) ∧ ∀ i m H, W i m H →
      ((Itr lo n).stop i H ∧ Qd H) ∨ ((Itr lo n).go i H ∧ ∃ Nx : Hp → Prop, (∀ H', Nx H' → ∃ m', m' < m ∧ W (i + 1) m' H') ∧ ∀ x H', (Itr lo n).yld i H x H' → g x (wipe σ vs) H' fun σ2 H2 => wipe σ2 vs = wipe σ vs ∧ tt σ2 H2 fun b H3 =>
        if b = true then te σ2 H3 fun y H4 => ∃ acc, H4 D = some (.lst acc) ∧ acc.length < sizeLine ∧ Nx (upd H4 D (.lst (acc ++ [y]))) else Nx H3) := by
  refine lc_range (fun i H' => Same H1 H' ∧ H' D = some (.lst ((List.range i).filterMap f))) ⟨same_upd hD, upd_same⟩ ?_ ?_
  · rintro i H' hi ⟨s1, hq⟩
    refine hs i H' _ _ hi s1 (fun H3 e s2 => ⟨s1.trans s2, ?_⟩) (fun z H4 e s2 => ⟨_, s2 _ _ hq, ?_, same_new (s1.trans s2) hD, ?_⟩)
    · rw [List.range_succ, List.filterMap_append]
      simpa [e] using s2 _ _ hq
    · have := List.length_filterMap_le f (List.range i)
      rw [List.length_range] at this
      omega
    · rw [upd_same, List.range_succ, List.filterMap_append]
      simp [e]
  · rintro H' ⟨s1, hq⟩
    exact hd H' s1 hq
theorem lc_zipTS {b : Addr} {ys : List V} (hD : H1 D = none) (hx : SqT K H1 a xs) (hy : SqT K H1 b ys) (zs : List α) (hl : zs.length = min xs.length ys.length) (hz : zs.length < sizeLine) (f : α → Option V)
    (hs : ∀ (i : Nat) (x y : V) (z : α) (T : Addr) (H' : Hp) (R : Hp → Prop) (Rz : VK), xs[i]? = some x → ys[i]? = some y → zs[i]? = some z → Same H1 H' → H' T = some (.tup [x, y]) → (∀ H4, f z = none → Same H' H4 → R H4) → (∀ u H4, f z = some u → Same H' H4 → Rz u H4) →
      g (.ref T) (wipe σ vs) H' fun σ2 H2 => wipe σ2 vs = wipe σ vs ∧ tt σ2 H2 fun b H3 => if b = true then te σ2 H3 Rz else R H3)
    (hd : ∀ H', Same H1 H' → H' D = some (.lst (zs.filterMap f)) → Qd H') :
    ∃ W : Nat → Nat → Hp → Prop, (∃ m, W 0 m (upd H1 D (.lst []))) ∧ ∀ i m H, W i m H →
      ((RZ.ItzT K a b).stop i H ∧ Qd H) ∨ ((RZ.ItzT K a b).go i H ∧ ∃ Nx : Hp → Prop, (∀ H', Nx H' → ∃ m', m' < m ∧ W (i + 1) m' H') ∧ ∀ x H', (RZ.ItzT K a b).yld i H x H' → g x (wipe σ vs) H' fun σ2 H2 => wipe σ2 vs = wipe σ vs ∧ tt σ2 H2 fun b H3 =>
        if b = true then te σ2 H3 fun y H4 => ∃ acc, H4 D = some (.lst acc) ∧ acc.length < sizeLine ∧ Nx (upd H4 D (.lst (acc ++ [y]))) else Nx H3) := by
  refine ⟨fun i m H' => m = zs.length - i ∧ i ≤ zs.length ∧ Same H1 H' ∧ H' D = some (.lst ((zs.take i).filterMap f)), ⟨zs.length, rfl, Nat.zero_le _, same_upd hD, upd_same⟩, ?_⟩
  rintro i m H' ⟨rfl, hi, s1, hq⟩
  by_cases hlt : i < zs.length
  · have ex : xs[i]? = some (xs[i]'(by omega)) := List.getElem?_eq_getElem _
    have ey : ys[i]? = some (ys[i]'(by omega)) := List.getElem?_eq_getElem _
    have ez : zs[i]? = some zs[i] := List.getElem?_eq_getElem hlt
    refine .inr ⟨⟨xs, ys, _, _, Same.tupT s1 hx, Same.tupT s1 hy, ex, ey⟩, fun H'' => Same H1 H'' ∧ H'' D = some (.lst ((zs.take (i + 1)).filterMap f)), fun H'' q => ⟨zs.length - (i + 1), by omega, rfl, by omega, q.1, q.2⟩, ?_⟩
    rintro v H'' ⟨T, x, y, rfl, hT, rfl, q1, q2⟩
    have s2 : Same H' (upd H' T (.tup [x, y])) := same_upd hT
    refine hs i x y _ T _ _ _ (q1 xs (Same.tupT s1 hx)) (q2 ys (Same.tupT s1 hy)) ez (s1.trans s2) upd_same (fun H3 e s3 => ⟨(s1.trans s2).trans s3, ?_⟩) (fun z H4 e s3 => ⟨_, s3 _ _ (s2 _ _ hq), ?_, same_new ((s1.trans s2).trans s3) hD, ?_⟩)
    · rw [fm_snoc ez, e]
      simpa using s3 _ _ (s2 _ _ hq)
    · have := List.length_filterMap_le f (zs.take i)
      rw [List.length_take] at this
      omega
    · rw [upd_same, fm_snoc ez, e]
      rfl
  · have e : i = zs.length := by omega
    subst e
    rw [List.take_length] at hq
    exact .inl ⟨⟨xs, ys, Same.tupT s1 hx, Same.tupT s1 hy, by omega⟩, hd H' s1 hq⟩
theorem lc_itkS {kvs : List (V × V)} (hD : H1 D = none) (hz : kvs.length < sizeLine) (f : V × V → Option V)
    (hs : ∀ (i : Nat) (x y : V) (T : Addr) (H' : Hp) (R : Hp → Prop) (Rz : VK), kvs[i]? = some (x, y) → Same H1 H' → H' T = some (.tup [x, y]) → (∀ H4, f (x, y) = none → Same H' H4 → R H4) → (∀ u H4, f (x, y) = some u → Same H' H4 → Rz u H4) →
      g (.ref T) (wipe σ vs) H' fun σ2 H2 => wipe σ2 vs = wipe σ vs ∧ tt σ2 H2 fun b H3 => if b = true then te σ2 H3 Rz else R H3)
    (hd : ∀ H', Same H1 H' → H' D = some (.lst (kvs.filterMap f)) → Qd H') :
    ∃ W : Nat → Nat → Hp → Prop, (∃ m, W 0 m (upd H1 D (.lst []))) ∧ ∀ i m H, W i m H →
      ((ItK kvs).stop i H ∧ Qd H) ∨ ((ItK kvs).go i H ∧ ∃ Nx : Hp → Prop, (∀ H', Nx H' → ∃ m', m' < m ∧ W (i + 1) m' H') ∧ ∀ x H', (ItK kvs).yld i H x H' → g x (wipe σ vs) H' fun σ2 H2 => wipe σ2 vs = wipe σ vs ∧ tt σ2 H2 fun b H3 =>
        if b = true then te σ2 H3 fun y H4 => ∃ acc, H4 D = some (.lst acc) ∧ acc.length < sizeLine ∧ Nx (upd H4 D (.lst (acc ++ [y]))) else Nx H3) := by
  refine lc_itk (fun i H' => Same H1 H' ∧ H' D = some (.lst ((kvs.take i).filterMap f))) ⟨same_upd hD, upd_same⟩ ?_ ?_
  · rintro i x y T H' hi ⟨s1, hq⟩ hT
    have s2 : Same H' (upd H' T (.tup [x, y])) := same_upd hT
    refine hs i x y T _ _ _ hi (s1.trans s2) upd_same (fun H3 e s3 => ⟨(s1.trans s2).trans s3, ?_⟩) (fun z H4 e s3 => ⟨_, s3 _ _ (s2 _ _ hq), ?_, same_new ((s1.trans s2).trans s3) hD, ?_⟩)
    · rw [fm_snoc hi, e]
      simpa using s3 _ _ (s2 _ _ hq)
    · have := List.length_filterMap_le f (kvs.take i)
      rw [List.length_take] at this
      omega
    · rw [upd_same, fm_snoc hi, e]
      rfl
  · rintro H' ⟨s1, hq⟩
    rw [List.take_length] at hq
    exact hd H' s1 hq
end
theorem pg_tupK (K : PySem.W.Frag) {X : Cx} {es : List Expr} {k n : Nat} {t : TGs} {pos : Pos} (e : X.K = K) (hc : X.calm = true) (h : PGs X es t) (hn : (assignEach es X.env).length = n := by rfl) (hst : (assignEach es X.env).findIdx? (·.1) = none := by rfl) : PG X (.Tuple es k pos) (gTup K n t) := e ▸ pg_tup hc h hn hst
/-- t[lo:hi], whichever tuple it is -/
def rSlB (K : PySem.W.Frag) : V → Option Int → Option Int → Hp → VK → Prop := fun x lo hi H Q => ∃ a xs, x = .ref a ∧ SqT K H a xs ∧ ∀ p H', Same H H' → SqT K H' p (cutV xs lo hi) → Q (.ref p) H'
theorem sl_tupB {X : Cx} : SlR X (rSlB X.K) := by
  intro pins s σ H x v vl vu lo hi sl Q I rx hs pl pu h
  obtain ⟨a, xs, rfl, hx, q⟩ := h
  refine sl_tupA pins s σ H _ v vl vu lo hi sl Q I rx hs pl pu ⟨a, xs, rfl, hx, fun hw => q a H (Same.refl _) ?_, fun _ p hp => q p _ (same_upd hp) (.inl (.inl upd_same))⟩
  unfold cutV
  rw [hw.1, hw.2, List.drop_zero, Nat.sub_zero, List.take_length]
  exact hx
/-! ### lists of texts -/
def okS (x : Str) : Bool := x.cps.all (· < 0x110000)
theorem dpAll_strs {K : PySem.W.Frag} {H : Hp} : ∀ zs : List Str, DpAll K H (zs.map V.str) (zs.map PyData.str)
  | [] => .nil
  | z :: zs => .cons (.str z) (dpAll_strs zs)
theorem dp_strs {K : PySem.W.Frag} {H : Hp} {a : Addr} {zs : List Str} (h : SqL K H a (zs.map V.str)) : Dp K H (.ref a) (.list (zs.map PyData.str)) := .lst h (dpAll_strs zs)
theorem lay_strs : ∀ {zs : List Str}, zs.all okS = true → PyData.canLayAll0 (zs.map PyData.str) = true
  | [], _ => rfl
  | z :: zs, h => by
    rw [List.all_cons, Bool.and_eq_true] at h
    show (PyData.canLay0 (.str z) && PyData.canLayAll0 (zs.map PyData.str)) = true
    rw [lay_strs h.2, Bool.and_true]
    exact h.1
theorem dep_strs : ∀ zs : List Str, PyData.depthAll (zs.map PyData.str) = 0
  | [] => rfl
  | _ :: r => by simp [PyData.depthAll, PyData.depth, dep_strs r]
theorem shaped_strs {zs : List Str} (h : zs.all okS = true) : SeqAt.shaped (.list (zs.map PyData.str)) = true := by
  simp [SeqAt.shaped, PyData.canLay0, PyData.depth, lay_strs h, dep_strs]
theorem eqvAll_strs : ∀ zs ys : List Str, PyData.eqvAll (zs.map PyData.str) (ys.map PyData.str) = decide (zs = ys)
  | [], [] => rfl
  | [], _ :: _ => by simp [PyData.eqvAll]
  | _ :: _, [] => by simp [PyData.eqvAll]
  | z :: zs, y :: ys => by
    have ih := eqvAll_strs zs ys
    simp only [List.map_cons, PyData.eqvAll, PyData.eqv, ih]
    by_cases h : z = y
    · subst h
      by_cases h' : zs = ys
      · subst h'
        simp
      · simp [h']
    · have : (z == y) = false := beq_eq_false_iff_ne.mpr h
      simp [h, this]
theorem eqv_strs (zs ys : List Str) : PyData.eqv (.list (zs.map PyData.str)) (.list (ys.map PyData.str)) = decide (zs = ys) := by
  show PyData.eqvAll _ _ = _
  exact eqvAll_strs zs ys
/-- words == words, lists of texts -/
def rEqW (K : PySem.W.Frag) : R2 := fun x y H Q => ∃ (a b : Addr) (zs ys : List Str), x = .ref a ∧ y = .ref b ∧ SqL K H a (zs.map V.str) ∧ SqL K H b (ys.map V.str) ∧ zs.all okS = true ∧ ys.all okS = true ∧ Q (.bl (decide (zs = ys))) H
def rNeW (K : PySem.W.Frag) : R2 := fun x y H Q => ∃ (a b : Addr) (zs ys : List Str), x = .ref a ∧ y = .ref b ∧ SqL K H a (zs.map V.str) ∧ SqL K H b (ys.map V.str) ∧ zs.all okS = true ∧ ys.all okS = true ∧ Q (.bl (!decide (zs = ys))) H
theorem op_eqW {X : Cx} (hu : X.A.units + 64 < cLine) : OpR X (compareOp .Eq) (rEqW X.K) := by
  intro pins s σ H x y v u Q I rx ry h
  obtain ⟨a, b, zs, ys, rfl, rfl, h1, h2, o1, o2, q⟩ := h
  refine op_eqD hu pins s σ H _ _ v u Q I rx ry ⟨_, _, dp_strs h1, dp_strs h2, shaped_strs o1, shaped_strs o2, ?_⟩
  rw [eqv_strs]
  exact q
theorem op_neW {X : Cx} (hu : X.A.units + 64 < cLine) : OpR X (compareOp .NotEq) (rNeW X.K) := by
  intro pins s σ H x y v u Q I rx ry h
  obtain ⟨a, b, zs, ys, rfl, rfl, h1, h2, o1, o2, q⟩ := h
  refine op_neD hu pins s σ H _ _ v u Q I rx ry ⟨_, _, dp_strs h1, dp_strs h2, shaped_strs o1, shaped_strs o2, ?_⟩
  rw [eqv_strs]
  exact q
end Km
set_option Elab.async false
set_option linter.all false
set_option maxRecDepth 100000
set_option maxHeartbeats 4000000
/-! which trees are bodies, which are things -/
namespace Km
open PySem PySem.Spec PyProof.Rows L2
def Tr.nm : Tr → Option Nat
  | .num n => some n
  | .col n => some n
  | .kept n => some n
  | .call n _ => some n
  | _ => none
/-- the numbers that stand under a word -/
def numIf (z : Str) (s : Tr) : Option Int := if s.word = z then s.nm.map Int.ofNat else none
def numsOf (z : Str) (t : Tr) : List Int := t.parts.filterMap (numIf z)
theorem word_of (s : Tr) (z : Str) : s.word = z ↔ (match s with | .num _ => ("number" : Str) = z | .given => ("given" : Str) = z | .setting => ("setting" : Str) = z | .col _ => ("column" : Str) = z | .kept _ => ("kept" : Str) = z | .call _ _ => ("call" : Str) = z | .bin o _ _ => o.word = z | .whn _ _ _ => ("when" : Str) = z) := by
  cases s <;> exact Iff.rfl
theorem bin_word (o : Op) : ¬ o.word = "column" ∧ ¬ o.word = "kept" ∧ ¬ o.word = "call" ∧ ¬ o.word = "given" ∧ ¬ o.word = "number" ∧ ¬ o.word = "setting" := by cases o <;> decide +kernel
theorem numIf_col (s : Tr) : numIf "column" s = match s with | .col n => some (n : Int) | _ => none := by
  unfold numIf
  cases s
  case col n => rfl
  case num n => exact if_neg (show ¬ (("number" : Str) = "column") by decide +kernel)
  case given => exact if_neg (show ¬ (("given" : Str) = "column") by decide +kernel)
  case setting => exact if_neg (show ¬ (("setting" : Str) = "column") by decide +kernel)
  case kept n => exact if_neg (show ¬ (("kept" : Str) = "column") by decide +kernel)
  case call n a => exact if_neg (show ¬ (("call" : Str) = "column") by decide +kernel)
  case bin o a b => exact if_neg (bin_word o).1
  case whn a b c => exact if_neg (show ¬ (("when" : Str) = "column") by decide +kernel)
theorem numIf_kept (s : Tr) : numIf "kept" s = match s with | .kept n => some (n : Int) | _ => none := by
  unfold numIf
  cases s
  case kept n => rfl
  case num n => exact if_neg (show ¬ (("number" : Str) = "kept") by decide +kernel)
  case given => exact if_neg (show ¬ (("given" : Str) = "kept") by decide +kernel)
  case setting => exact if_neg (show ¬ (("setting" : Str) = "kept") by decide +kernel)
  case col n => exact if_neg (show ¬ (("column" : Str) = "kept") by decide +kernel)
  case call n a => exact if_neg (show ¬ (("call" : Str) = "kept") by decide +kernel)
  case bin o a b => exact if_neg (bin_word o).2.1
  case whn a b c => exact if_neg (show ¬ (("when" : Str) = "kept") by decide +kernel)
theorem numIf_call (s : Tr) : numIf "call" s = match s with | .call n _ => some (n : Int) | _ => none := by
  unfold numIf
  cases s
  case call n a => rfl
  case num n => exact if_neg (show ¬ (("number" : Str) = "call") by decide +kernel)
  case given => exact if_neg (show ¬ (("given" : Str) = "call") by decide +kernel)
  case setting => exact if_neg (show ¬ (("setting" : Str) = "call") by decide +kernel)
  case col n => exact if_neg (show ¬ (("column" : Str) = "call") by decide +kernel)
  case kept n => exact if_neg (show ¬ (("kept" : Str) = "call") by decide +kernel)
  case bin o a b => exact if_neg (bin_word o).2.2.1
  case whn a b c => exact if_neg (show ¬ (("when" : Str) = "call") by decide +kernel)
theorem word_given (s : Tr) : (s.word = "given") ↔ s = .given := by
  cases s
  case given => exact ⟨fun _ => rfl, fun _ => rfl⟩
  case num n => exact ⟨fun h => absurd h (show ¬ (("number" : Str) = "given") by decide +kernel), fun h => by cases h⟩
  case setting => exact ⟨fun h => absurd h (show ¬ (("setting" : Str) = "given") by decide +kernel), fun h => by cases h⟩
  case col n => exact ⟨fun h => absurd h (show ¬ (("column" : Str) = "given") by decide +kernel), fun h => by cases h⟩
  case kept n => exact ⟨fun h => absurd h (show ¬ (("kept" : Str) = "given") by decide +kernel), fun h => by cases h⟩
  case call n a => exact ⟨fun h => absurd h (show ¬ (("call" : Str) = "given") by decide +kernel), fun h => by cases h⟩
  case bin o a b => exact ⟨fun h => absurd h (bin_word o).2.2.2.1, fun h => by cases h⟩
  case whn a b c => exact ⟨fun h => absurd h (show ¬ (("when" : Str) = "given") by decide +kernel), fun h => by cases h⟩
theorem word_num (s : Tr) : (s.word = "number") ↔ ∃ n, s = .num n := by
  cases s
  case num n => exact ⟨fun _ => ⟨n, rfl⟩, fun _ => rfl⟩
  case given => exact ⟨fun h => absurd h (show ¬ (("given" : Str) = "number") by decide +kernel), fun ⟨_, h⟩ => by cases h⟩
  case setting => exact ⟨fun h => absurd h (show ¬ (("setting" : Str) = "number") by decide +kernel), fun ⟨_, h⟩ => by cases h⟩
  case col n => exact ⟨fun h => absurd h (show ¬ (("column" : Str) = "number") by decide +kernel), fun ⟨_, h⟩ => by cases h⟩
  case kept n => exact ⟨fun h => absurd h (show ¬ (("kept" : Str) = "number") by decide +kernel), fun ⟨_, h⟩ => by cases h⟩
  case call n a => exact ⟨fun h => absurd h (show ¬ (("call" : Str) = "number") by decide +kernel), fun ⟨_, h⟩ => by cases h⟩
  case bin o a b => exact ⟨fun h => absurd h (bin_word o).2.2.2.2.1, fun ⟨_, h⟩ => by cases h⟩
  case whn a b c => exact ⟨fun h => absurd h (show ¬ (("when" : Str) = "number") by decide +kernel), fun ⟨_, h⟩ => by cases h⟩
def numLt (b : Nat) : Tr → Bool
  | .num n => decide (n < b)
  | _ => true
def partOk (b m : Nat) (leaf : Tr → Bool) : Tr → Bool
  | .num n => decide (n < b)
  | .call n _ => decide (n < m)
  | .given => leaf .given
  | .setting => leaf .setting
  | .col n => leaf (.col n)
  | .kept n => leaf (.kept n)
  | _ => true
def goodT (b m : Nat) (leaf : Tr → Bool) (t : Tr) : Bool := t.parts.all (partOk b m leaf)
def leafB : Tr → Bool
  | .given => true
  | .setting => true
  | _ => false
def leafP (cols : Nat) (ahead : List Bool) : Tr → Bool
  | .setting => true
  | .col n => decide (n < cols)
  | .kept n => ahead[n]? == some true
  | _ => false
theorem mem_numsOf {z : Str} {t : Tr} {k : Int} : k ∈ numsOf z t ↔ ∃ s ∈ t.parts, numIf z s = some k := List.mem_filterMap
theorem goodB_of {b m : Nat} {t : Tr} {n1 n2 n3 : List Int} (h1 : ∀ k, k ∈ n1 ↔ k ∈ numsOf "column" t) (h2 : ∀ k, k ∈ n2 ↔ k ∈ numsOf "kept" t) (h3 : ∀ k, k ∈ n3 ↔ k ∈ numsOf "call" t) :
    goodT b m leafB t = (t.parts.all (numLt b) && (n1.isEmpty && (n2.isEmpty && n3.all fun k => decide (k < (m : Int))))) := by
  rw [Bool.eq_iff_iff]
  simp only [Bool.and_eq_true, goodT, List.all_eq_true, List.isEmpty_iff, decide_eq_true_eq]
  constructor
  · intro h
    refine ⟨fun s hs => ?_, List.eq_nil_iff_forall_not_mem.mpr fun k hk => ?_, List.eq_nil_iff_forall_not_mem.mpr fun k hk => ?_, fun k hk => ?_⟩
    · have := h s hs
      cases s <;> first | exact this | rfl
    · obtain ⟨s, hs, e⟩ := mem_numsOf.mp ((h1 k).mp hk)
      have := h s hs
      rw [numIf_col] at e
      cases s <;> cases e <;> cases this
    · obtain ⟨s, hs, e⟩ := mem_numsOf.mp ((h2 k).mp hk)
      have := h s hs
      rw [numIf_kept] at e
      cases s <;> cases e <;> cases this
    · obtain ⟨s, hs, e⟩ := mem_numsOf.mp ((h3 k).mp hk)
      have := h s hs
      rw [numIf_call] at e
      cases s <;> first | (cases e; have := of_decide_eq_true (show decide (_ < m) = true from this); omega) | (cases e)
  · rintro ⟨h4, rfl, rfl, h5⟩ s hs
    cases s
    case num n => exact h4 _ hs
    case given => rfl
    case setting => rfl
    case col n => exact absurd ((h1 n).mpr (mem_numsOf.mpr ⟨_, hs, numIf_col _⟩)) (by simp)
    case kept n => exact absurd ((h2 n).mpr (mem_numsOf.mpr ⟨_, hs, numIf_kept _⟩)) (by simp)
    case call n a =>
      have := h5 n ((h3 n).mpr (mem_numsOf.mpr ⟨_, hs, numIf_call _⟩))
      exact decide_eq_true (by omega)
    case bin o a b => rfl
    case whn a b c => rfl
theorem goodP_of {b m cols : Nat} {ahead : List Bool} {t : Tr} {n1 n2 n3 : List Int} (h1 : ∀ k, k ∈ n1 ↔ k ∈ numsOf "call" t) (h2 : ∀ k, k ∈ n2 ↔ k ∈ numsOf "column" t) (h3 : ∀ k, k ∈ n3 ↔ k ∈ numsOf "kept" t) :
    goodT b m (leafP cols ahead) t = (t.parts.all (numLt b) && (!(t.parts.any fun s => decide (s.word = "given")) && ((n1.all fun k => decide (k < (m : Int))) && ((n2.all fun k => decide (k < (cols : Int))) && n3.all fun k => decide (0 ≤ k) && (ahead[k.toNat]? == some true))))) := by
  rw [Bool.eq_iff_iff]
  simp only [Bool.and_eq_true, goodT, List.all_eq_true, decide_eq_true_eq, Bool.not_eq_true', List.any_eq_false]
  constructor
  · intro h
    refine ⟨fun s hs => ?_, fun s hs hg => ?_, fun k hk => ?_, fun k hk => ?_, fun k hk => ?_⟩
    · have := h s hs
      cases s <;> first | exact this | rfl
    · rw [word_given] at hg
      subst hg
      exact absurd (h _ hs) (by show ¬ (false = true); decide)
    · obtain ⟨s, hs, e⟩ := mem_numsOf.mp ((h1 k).mp hk)
      have := h s hs
      rw [numIf_call] at e
      cases s <;> first | (cases e; have := of_decide_eq_true (show decide (_ < m) = true from this); omega) | (cases e)
    · obtain ⟨s, hs, e⟩ := mem_numsOf.mp ((h2 k).mp hk)
      have := h s hs
      rw [numIf_col] at e
      cases s <;> first | (cases e; have := of_decide_eq_true (show decide (_ < cols) = true from this); omega) | (cases e)
    · obtain ⟨s, hs, e⟩ := mem_numsOf.mp ((h3 k).mp hk)
      have := h s hs
      rw [numIf_kept] at e
      cases s <;> first | (cases e; exact ⟨by omega, this⟩) | (cases e)
  · rintro ⟨h4, h5, h6, h7, h8⟩ s hs
    cases s
    case num n => exact h4 _ hs
    case given => exact absurd rfl (h5 _ hs)
    case setting => rfl
    case col n =>
      have := h7 n ((h2 n).mpr (mem_numsOf.mpr ⟨_, hs, numIf_col _⟩))
      exact decide_eq_true (by omega)
    case kept n => exact (h8 n ((h3 n).mpr (mem_numsOf.mpr ⟨_, hs, numIf_kept _⟩))).2
    case call n a =>
      have := h6 n ((h1 n).mpr (mem_numsOf.mpr ⟨_, hs, numIf_call _⟩))
      exact decide_eq_true (by omega)
    case bin o a b => rfl
    case whn a b c => rfl
/-- one function's bodies -/
def bsOk (b m : Nat) (bs : List Tr) : Bool := decide (1 ≤ bs.length ∧ bs.length ≤ 3) && bs.all (goodT b m leafB)
def funsOk (b : Nat) : Nat → List (List Tr) → Bool
  | _, [] => true
  | i, bs :: r => bsOk b i bs && funsOk b (i + 1) r
theorem funsOk_app {b : Nat} : ∀ {fs gs : List (List Tr)} {i : Nat}, funsOk b i (fs ++ gs) = (funsOk b i fs && funsOk b (i + fs.length) gs)
  | [], gs, i => by simp [funsOk]
  | f :: fs, gs, i => by
    have ih := funsOk_app (b := b) (fs := fs) (gs := gs) (i := i + 1)
    simp only [List.cons_append, funsOk, ih, Bool.and_assoc, List.length_cons]
    rw [show i + 1 + fs.length = i + (fs.length + 1) by omega]
def funsAll (b : Nat) (fs : List (List Tr)) : Bool := decide (1 ≤ fs.length ∧ fs.length ≤ 3) && funsOk b 0 fs
/-- what is wrong with a book -/
inductive BookPart where | base | settings | functions
  deriving DecidableEq
def BookPart.str : BookPart → Str
  | .base => "BASE" | .settings => "SETTINGS" | .functions => "FUNCTIONS"
def bookBad (b s : Nat) (fs : List (List Tr)) : Option BookPart :=
  if ¬ (2 ≤ b ∧ b ≤ 3) then some .base else if ¬ (1 ≤ s ∧ s ≤ b) then some .settings else if funsAll b fs = false then some .functions else none
/-! ### plans -/
inductive Mode where | kept | again | check
  deriving DecidableEq
def Mode.str : Mode → Str
  | .kept => "kept" | .again => "again" | .check => "check"
def flags (ths : List (Mode × Tr)) : List Bool := ths.map fun p => decide (p.1 = .kept)
def thOk (b m c : Nat) : List Bool → List (Mode × Tr) → Bool
  | _, [] => true
  | fl, p :: r => goodT b m (leafP c fl) p.2 && thOk b m c (fl ++ [decide (p.1 = .kept)]) r
theorem thOk_app {b m c : Nat} : ∀ {xs ys : List (Mode × Tr)} {fl : List Bool}, thOk b m c fl (xs ++ ys) = (thOk b m c fl xs && thOk b m c (fl ++ flags xs) ys)
  | [], ys, fl => by simp [thOk, flags]
  | x :: xs, ys, fl => by
    have ih := thOk_app (b := b) (m := m) (c := c) (xs := xs) (ys := ys) (fl := fl ++ [decide (x.1 = .kept)])
    simp only [List.cons_append, thOk, ih, Bool.and_assoc]
    simp [flags, List.append_assoc]
def thAll (b m c : Nat) (ths : List (Mode × Tr)) : Bool := decide (1 ≤ ths.length ∧ ths.length ≤ 3) && thOk b m c [] ths
def rising : List Nat → Bool
  | a :: b :: r => decide (a < b) && rising (b :: r)
  | _ => true
def risOk (m : Nat) (ns : List Nat) : Bool := ns.all (fun n => decide (n < m)) && rising ns
inductive PlanPart where | columns | things | free | writers | askers
  deriving DecidableEq
def PlanPart.str : PlanPart → Str
  | .columns => "COLUMNS" | .things => "THINGS" | .free => "FREE" | .writers => "WRITERS" | .askers => "ASKERS"
def planBad (b s m c : Nat) (ths : List (Mode × Tr)) (fr wr as : Option (List Nat)) : Option PlanPart :=
  if ¬ (1 ≤ c ∧ c ≤ 2) then some .columns else if thAll b m c ths = false then some .things else if risOk m (fr.getD (List.range m)) = false then some .free
  else if (risOk s (wr.getD (List.range s)) && !(wr.getD (List.range s)).isEmpty) = false then some .writers else if (risOk s (as.getD (List.range s)) && !(as.getD (List.range s)).isEmpty) = false then some .askers else none
theorem nums_nonneg {z : Str} {t : Tr} {k : Int} (h : k ∈ numsOf z t) : 0 ≤ k := by
  obtain ⟨s, _, e⟩ := mem_numsOf.mp h
  unfold numIf at e
  split at e
  · obtain ⟨n, _, rfl⟩ := Option.map_eq_some_iff.mp e
    exact Int.natCast_nonneg n
  · cases e
end Km
set_option Elab.async false
set_option linter.all false
set_option maxRecDepth 100000
set_option maxHeartbeats 4000000
/-! forms: what stands, and what each def of them shows -/
namespace Km
open PySem PySem.Spec PyProof.Rows L2
/-- an own class and its isinstance -/
structure ClsG (K : PySem.W.Frag) (mg : Str → Option Value) (x : Str) : Prop where
  g : mg x = some (.ref (He.ga K x))
  c : Cls K (He.ga K x)
  ca : PySem.W.findIn K (.ref (He.ga K x)) "__class__" = some (some (.builtin "object.__class__"))
  cn : PySem.W.specialIn K (.builtin "object.__class__") "__get__" = some (some (.builtin "getset_descriptor.__get__"))
  ct : PySem.W.takesIn K (.builtin "object.__class__") = some true
  cm : PySem.W.mroIn K (He.ga K x) (.type "object") = some true
  it : PySem.W.kitOne K (.ref (He.ga K x)) (.ref (He.ga K x)) = some true
theorem ClsG.ty {K : PySem.W.Frag} {mg : Str → Option Value} {x : Str} (C : ClsG K mg x) {H : Hp} {a dx : Addr} {fs : List (Str × V)} (e : H a = some (.ins (He.ga K x) dx fs)) : TyX K H (.ref a) (.ref (He.ga K x)) := .base (.ins e C.c C.ca C.cn C.ct C.cm)
structure Fm (K : PySem.W.Frag) (mg : Str → Option Value) (w : World) : Prop where
  B : Bt mg
  signs : mg "SIGNS" = some (.ref (He.ga K "SIGNS"))
  signsD : ∃ es n, KDict K w (He.ga K "SIGNS") es n
  signsV : ∀ p ∈ signTab, ∃ u, PySem.W.nsIn K (He.ga K "SIGNS") p.1 = some (some u) ∧ RelV (.str p.2) u
  most : mg "MOST" = some (.ref (He.ga K "MOST"))
  mostD : ∃ es n, KDict K w (He.ga K "MOST") es n
  mostV : ∀ p ∈ mostTab, ∃ u, PySem.W.nsIn K (He.ga K "MOST") p.1 = some (some u) ∧ RelV (.int p.2) u
  mf : ∃ t, mg "MOST_FORMS" = some (.int 12 t)
  F : ClsG K mg "Form"
  nT : NoAttr K (He.ga K "Form") "tree"
  dBetween : DefG K mg "is_between" sBetween
  dCount : DefG K mg "count_in" (top 18)
  dTrees : DefG K mg "trees_in" (top 19)
  iForm : IniG K mg "Form" "Form.__init__" (He.ga K "Form") (inClass (top 22) 0)
  mNums : MetG K (He.ga K "Form") "numbers_of" "Form.numbers_of" (inClass (top 22) 7)
  pCalls : PrpG K (He.ga K "Form") "calls" "Form.calls" (inClass (top 22) 8)
  pCols : PrpG K (He.ga K "Form") "columns" "Form.columns" (inClass (top 22) 9)
  pReads : PrpG K (He.ga K "Form") "reads" "Form.reads" (inClass (top 22) 10)
  mHas : MetG K (He.ga K "Form") "__contains__" "Form.__contains__" (inClass (top 22) 21)
theorem Fm.sign {K : PySem.W.Frag} {mg : Str → Option Value} {w : World} (T : Fm K mg w) (t : Tr) : ∃ u, PySem.W.nsIn K (He.ga K "SIGNS") t.word = some (some u) ∧ RelV (.str (SX.S (t.row.map (·.1)))) u := by
  cases t
  case num n => exact T.signsV ("number", SX.S [110]) (by simp [signTab])
  case given => exact T.signsV ("given", SX.S []) (by simp [signTab])
  case setting => exact T.signsV ("setting", SX.S []) (by simp [signTab])
  case col n => exact T.signsV ("column", SX.S [99]) (by simp [signTab])
  case kept n => exact T.signsV ("kept", SX.S [99]) (by simp [signTab])
  case call n a => exact T.signsV ("call", SX.S [110, 102]) (by simp [signTab])
  case bin o a b =>
    cases o
    · exact T.signsV ("sum", SX.S [102, 102]) (by simp [signTab])
    · exact T.signsV ("less", SX.S [102, 102]) (by simp [signTab])
    · exact T.signsV ("times", SX.S [102, 102]) (by simp [signTab])
    · exact T.signsV ("same", SX.S [102, 102]) (by simp [signTab])
  case whn a b c => exact T.signsV ("when", SX.S [102, 102, 102]) (by simp [signTab])
theorem Fm.signK {K : PySem.W.Frag} {mg : Str → Option Value} {w : World} (T : Fm K mg w) (t : Tr) : KDct K w (He.ga K "SIGNS") t.word (.str (SX.S (t.row.map (·.1)))) := by
  obtain ⟨es, n, D⟩ := T.signsD
  obtain ⟨u, e, r⟩ := T.sign t
  exact ⟨es, n, u, D.at_, D.lit, e, r⟩
theorem Fm.mostK {K : PySem.W.Frag} {mg : Str → Option Value} {w : World} (T : Fm K mg w) {p : Str × Int} (h : p ∈ mostTab) : KDct K w (He.ga K "MOST") p.1 (.int p.2) := by
  obtain ⟨es, n, D⟩ := T.mostD
  obtain ⟨u, e, r⟩ := T.mostV p h
  exact ⟨es, n, u, D.at_, D.lit, e, r⟩
theorem ix_tupK (K : PySem.W.Frag) {X : Cx} (h : X.K = K) : IxR X (rIxT K) := h ▸ ix_tup
section
variable {P : Program} {w : World} {K : PySem.W.Frag} {mg : Str → Option Value} {base : Heap}
/-! ### count_in -/
theorem scCount : FnScope ["tree", "room", "word", "found", "sign", "part", "size"] ["tree", "room"] (defScope (top 18)) := ⟨rfl, rfl, rfl, by decide +kernel, rfl, by decide +kernel, by decide +kernel⟩
def spCount (d : Nat) : Sp := fun vs H Q _ => ∃ (v : V) (r : Int) (t : Tr), vs = [v, .int r] ∧ TreeAt H t v ∧ t.wf = true ∧ t.depth ≤ d ∧ (t.size : Int) ≤ r ∧ ∀ H', Same H H' → Q (.int t.size) H'
def cnt (l : List (Nat × (Nat ⊕ Tr))) : Nat := (l.map fun p => asz p.2).sum
theorem cnt_take_succ {l : List (Nat × (Nat ⊕ Tr))} {i : Nat} {p : Nat × (Nat ⊕ Tr)} (h : l[i]? = some p) : cnt (l.take (i + 1)) = cnt (l.take i) + asz p.2 := by
  unfold cnt
  rw [List.take_add_one, h]
  simp
theorem cnt_le (l : List (Nat × (Nat ⊕ Tr))) (i : Nat) : cnt (l.take i) ≤ cnt l := by
  conv => rhs; rw [← List.take_append_drop i l]
  unfold cnt
  rw [List.map_append, List.sum_append]
  omega
theorem ok_count (T : Fm K mg w) : ∀ d, CalX CX0 P w K mg base (2 + d) "count_in" (spCount d)
  | 0 => by
    refine cal_of T.dCount scCount (fun _ _ _ _ _ _ us hl => match us, hl with | [_, _], _ => rfl) (fun vs H Q E ⟨v, r, t, e, _⟩ => by rw [e]; rfl) ?_
    rintro f cdv A outer s H vs Q E hr ⟨v, r, t, rfl, _, _, h, _⟩
    exact absurd (Tr.depth_pos t) (by omega)
  | d + 1 => by
    have IH := ok_count T d
    refine cal_of T.dCount scCount (fun _ _ _ _ _ _ us hl => match us, hl with | [_, _], _ => rfl) (fun vs H Q E ⟨v, r, t, e, _⟩ => by rw [e]; rfl) ?_
    rintro f cdv A outer s H vs Q E hr ⟨v, r, t, rfl, ht, hw, hd, hsz, k⟩
    obtain ⟨es, n, KD⟩ := T.signsD
    have B := T.B
    have nd := scCount.nd
    have bw := ok_between (P := P) (w := w) (K := K) (base := base) B T.dBetween
    obtain ⟨a, xs, rfl, ha, hl, hx⟩ := ht.row
    refine ⟨_, pss_cons (ps_if (PW.pt (pw_or (pt_cmpR op_lt (pv 1) pe_int (nomark _)) (pw_or (pt_not (pt_val (pe_callB call_isi (by rfl) B.isinstance_ (by decide +kernel) (pa_cons (pv 0) (pa_cons (pe_bltn (by rfl) B.tuple_ (by decide +kernel) (show RelV (.ty "tuple") _ from rfl)) pa_nil)))))
        (pw_or1 (pt_cmpR (op_eqE hr.units0) (pv 0) (pe_tup pa_nil) (nomark _)))))) pss_never pss_nil)
      (pss_cons (ps_set (i := 2) nd rfl (Or.inl rfl) (pe_ix ix_tup (pv 0) pe_int (fun _ _ => rfl)))
      (pss_cons (ps_if (PW.pt (pw_or (pt_not (pt_val (pe_callB call_isi (by rfl) B.isinstance_ (by decide +kernel) (pa_cons (pv 2) (pa_cons (pe_bltn (by rfl) B.str_ (by decide +kernel) (show RelV (.ty "str") _ from rfl)) pa_nil)))))
        (pw_or (pt_cmpR (op_notIn_kd KD) (pv 2) (pe_glob (by rfl) T.signs (show RelV (.ref (He.ga K "SIGNS")) _ from rfl)) (by rfl))
          (pw_or1 (pt_cmpR op_ne (pe_callB call_len (by rfl) B.len_ PySem.boot_len (pa_cons (pv 0) pa_nil)) (pe_op op_add (pe_callB call_len (by rfl) B.len_ PySem.boot_len (pa_cons (pe_ix ix_kdict (pe_glob (by rfl) T.signs (show RelV (.ref (He.ga K "SIGNS")) _ from rfl)) (pv 2) (fun _ _ => rfl)) pa_nil)) pe_int) (nomark _)))))) pss_never pss_nil)
      (pss_cons (ps_set (i := 3) nd rfl (Or.inl rfl) pe_int)
      (pss_cons (ps_for (passes_of rfl) rfl (pi_zipS (by rfl) B.zip_ (pa_cons (pe_ix ix_kdict (pe_glob (by rfl) T.signs (show RelV (.ref (He.ga K "SIGNS")) _ from rfl)) (pv 2) (fun _ _ => rfl)) (pa_cons (pe_slice sl_tup (pv 0) (po_some pe_int) po_none) pa_nil)))
          (pg_tup rfl (pgs_cons (pg_name (i := 4) nd rfl (Or.inl rfl)) (pgs_cons (pg_name (i := 5) nd rfl (Or.inl rfl)) pgs_nil)))
          (pss_one (ps_if (pt_cmpR op_eq (pv 4) pe_str (nomark _))
            (pss_cons (ps_set (i := 6) nd rfl (Or.inl rfl) (pe_cx IH hr pass0 (by rfl) (pa_cons (pv 5) (pa_cons (pe_op op_sub (pv 1) (pv 3)) pa_nil)) (Nat.le_refl _)))
              (pss_cons (ps_if (pt_cmpR op_eq (pv 6) pe_int (nomark _)) pss_never pss_nil) (pss_one (ps_set (i := 3) nd rfl (Or.inl rfl) (pe_op op_add (pv 3) (pv 6))))))
            (pss_one (ps_if (pt_not (pt_val (pe_cx bw hr pass0 (by rfl) (pa_cons (pv 5) (pa_cons pe_int (pa_cons (pe_ix ix_kdict (pe_glob (by rfl) T.most (show RelV (.ref (He.ga K "MOST")) _ from rfl)) (pv 4) (fun _ _ => rfl)) pa_nil))) (Nat.le_add_right_of_le (by decide))))) pss_never pss_nil)))))
      (pss_one (ps_ret (pv 3))))))), ?_⟩
    have hpos := Tr.size_pos t
    -- the first test
    refine ⟨_, rfl, r, 1, rfl, rfl, decide (r < 1), rfl, ?_⟩
    rw [show decide (r < 1) = false by simp; omega]
    refine iteF ⟨_, rfl, .ref a, _, _, _, true, rfl, .ty "tuple", .base (.tup ha), kit_ty (by decide +kernel), true, rfl, iteF ⟨_, rfl, Nat.zero_le _, fun p0 hp0 => ?_⟩⟩
    have na0 : a ≠ p0 := ne_of_none ha hp0
    have s0 : Same H (upd H p0 (.tup [])) := same_upd hp0
    refine ⟨a, p0, _, rfl, rfl, .inl (.inl (s0 _ _ ha)), .inl (.inl upd_same), false, rfl, iteF ?_⟩
    refine ⟨_, rfl, a, _, _, _, rfl, rfl, .inl (.inl (s0 _ _ ha)), atI_nat (j := 0) rfl, ?_⟩
    refine ⟨_, rfl, .str t.word, _, _, _, true, rfl, .ty "str", .base (.str _), kit_ty (by decide +kernel), true, rfl, iteF ?_⟩
    obtain ⟨u, eu, ru⟩ := T.sign t
    refine ⟨_, rfl, _, _, rfl, rfl, eu, false, rfl, iteF ?_⟩
    have sl : (SX.S (t.row.map (·.1))).length = t.row.length := by rw [SX.S_len, List.length_map]
    have s3 : t.row.length ≤ 3 := by cases t <;> simp [Tr.row]
    refine ⟨_, rfl, .ref a, _, rfl, .inr ⟨_, .inl (.inl (s0 _ _ ha)), rfl⟩, _, rfl, _, _, _, rfl, rfl, T.signK t, .str _, _, rfl, ⟨by rw [sl, sizeLine_eq]; omega, rfl⟩, _, _, rfl, rfl, rfl, _, rfl, ?_⟩
    rw [show (!decide (V.int ((V.str t.word :: xs).length : Int) = V.int (((SX.S (t.row.map (·.1))).length : Int) + 1))) = false by rw [sl, List.length_cons, hl]; simp]
    refine iteF ?_
    refine ⟨_, rfl, _, _, _, rfl, rfl, T.signK t, _, rfl, _, rfl, a, _, rfl, .inl (.inl (s0 _ _ ha)), not_whole _ _, fun p1 hp1 => ?_⟩
    have s1 : Same (upd H p0 (.tup [])) (upd (upd H p0 (.tup [])) p1 (.tup (cutV (.str t.word :: xs) (some 1) none))) := same_upd hp1
    rw [show (1 : Int) = ((1 : Nat) : Int) from rfl, cutV_from _ _ (by simp), List.drop_one, List.tail_cons]
    rw [show (1 : Int) = ((1 : Nat) : Int) from rfl, cutV_from _ _ (by simp), List.drop_one, List.tail_cons] at s1
    refine ⟨_, p1, _, rfl, .inl (.inl upd_same), for_zipS (ys := xs) (by simp [SX.S, hl]) (fun i σ H' => ∃ x1 x2 x3, σ = [some (.ref a), some (.int r), some (.str t.word), some (.int ((1 + cnt (t.row.take i) : Nat) : Int)), x1, x2, x3] ∧ Same (upd (upd H p0 (.tup [])) p1 (.tup xs)) H') ⟨_, _, _, rfl, Same.refl _⟩ (fun i σ H' ⟨_, _, _, _, s⟩ => .inl (.inl (s _ _ upd_same))) ?_ ?_⟩
    · rintro i c y p2 σ H' hc hy ⟨x1, x2, x3, rfl, s2⟩ hp2
      obtain ⟨⟨c', g⟩, hp, rfl⟩ : ∃ p, t.row[i]? = some p ∧ p.1 = c := by
        have q : (t.row.map (·.1))[i]? = some c := by
          rw [← List.getElem?_toArray]
          exact hc
        rw [List.getElem?_map] at q
        cases e : t.row[i]? with
        | none => rw [e] at q; cases q
        | some p => rw [e] at q; exact ⟨p, rfl, Option.some.inj q⟩
      have s5 : Same H (upd H' p2 (.tup [.str ⟨#[c']⟩, y])) := (s0.trans (s1.trans s2)).trans (same_upd hp2)
      have s6 : Same (upd (upd H p0 (.tup [])) p1 (.tup xs)) (upd H' p2 (.tup [.str ⟨#[c']⟩, y])) := s2.trans (same_upd hp2)
      have hat : ArgAt (upd H' p2 (.tup [.str ⟨#[c']⟩, y])) g y := (hx i _ y hp hy).tups (Same.tups s5)
      have hok : ArgOk d (c', g) := Tr.row_ok hw hd _ (List.mem_of_getElem? hp)
      have hcs : cnt (t.row.take (i + 1)) = cnt (t.row.take i) + asz g := cnt_take_succ hp
      have hle := cnt_le t.row (i + 1)
      have hsr : t.size = 1 + cnt t.row := t.size_row
      refine ⟨p2, _, rfl, .inl (.inl upd_same), rfl, _, _, rfl, _, _, rfl, rfl, ?_⟩
      refine ⟨_, rfl, rfl, _, rfl, ?_⟩
      cases g with
      | inr b =>
        obtain ⟨rfl, hbw, hbd⟩ := hok
        have hb1 := Tr.size_pos b
        have hcs : cnt (t.row.take (i + 1)) = cnt (t.row.take i) + b.size := hcs
        rw [show decide (V.str ⟨#[102]⟩ = V.str "f") = true from by decide +kernel]
        refine iteT ⟨_, rfl, _, rfl, _, rfl, _, _, rfl, rfl, _, _, b, rfl, hat, hbw, hbd, by omega, fun H2 s7 => ?_⟩
        refine ⟨_, rfl, rfl, _, rfl, ?_⟩
        rw [show decide (V.int (b.size : Int) = V.int 0) = false from by simp; omega]
        refine iteF ⟨_, rfl, _, rfl, _, _, rfl, rfl, some (.str ⟨#[102]⟩), some y, some (.int (b.size : Int)), ?_, s6.trans s7⟩
        rw [hcs, ← Nat.add_assoc, Int.natCast_add]
        rfl
      | inl m =>
        have hcs : cnt (t.row.take (i + 1)) = cnt (t.row.take i) + 0 := hcs
        have hcf : decide (V.str ⟨#[c']⟩ = V.str "f") = false := by
          rcases hok with ⟨rfl, _⟩ | ⟨rfl, _⟩ <;> decide +kernel
        rw [hcf]
        obtain ⟨lim, hlim, hml⟩ : ∃ lim : Int, KDct K w (He.ga K "MOST") ⟨#[c']⟩ (.int lim) ∧ (m : Int) ≤ lim := by
          rcases hok with ⟨rfl, h2⟩ | ⟨rfl, h1⟩
          · exact ⟨2, T.mostK (p := (SX.S [110], 2)) (by simp [mostTab]), by omega⟩
          · exact ⟨1, T.mostK (p := (SX.S [99], 1)) (by simp [mostTab]), by omega⟩
        have hat : y = .int (m : Int) := hat
        subst hat
        refine iteF ⟨_, rfl, _, rfl, _, _, _, rfl, rfl, hlim, _, _, _, rfl, _, rfl, ?_⟩
        rw [show (decide ((0 : Int) ≤ (m : Int)) && decide ((m : Int) ≤ lim)) = true from by simp; exact hml]
        refine iteF ⟨some (.str ⟨#[c']⟩), some (.int (m : Int)), x3, ?_, s6⟩
        rw [hcs, Nat.add_zero]
        rfl
    · rintro σ H' ⟨x1, x2, x3, rfl, s2⟩
      refine ⟨_, rfl, ?_⟩
      have hsr : t.size = 1 + cnt t.row := t.size_row
      rw [hl, List.take_length, ← hsr]
      exact k _ (s0.trans (s1.trans s2))
/-! ### trees_in -/
theorem scTrees : FnScope ["tree", "found", "part"] ["tree"] (defScope (top 19)) := ⟨rfl, rfl, rfl, by decide +kernel, rfl, by decide +kernel, by decide +kernel⟩
def spTrees (d : Nat) : Sp := fun vs H Q _ => ∃ (v : V) (t : Tr), vs = [v] ∧ TreeAt H t v ∧ t.depth ≤ d ∧ t.size ≤ 1000 ∧ ∀ p H' xs, Same H H' → H p = none → H' p = some (.lst xs) → Paired (TreeAt H') t.parts xs → Q (.ref p) H'
theorem ok_trees (T : Fm K mg w) : ∀ d, CalX CX0 P w K mg base (1 + d) "trees_in" (spTrees d)
  | 0 => by
    refine cal_of T.dTrees scTrees (fun _ _ _ _ _ _ us hl => match us, hl with | [_], _ => rfl) (fun vs H Q E ⟨v, t, e, _⟩ => by rw [e]; rfl) ?_
    rintro f cdv A outer s H vs Q E hr ⟨v, t, rfl, _, h, _⟩
    exact absurd (Tr.depth_pos t) (by omega)
  | d + 1 => by
    have IH := ok_trees T d
    refine cal_of T.dTrees scTrees (fun _ _ _ _ _ _ us hl => match us, hl with | [_], _ => rfl) (fun vs H Q E ⟨v, t, e, _⟩ => by rw [e]; rfl) ?_
    rintro f cdv A outer s H vs Q E hr ⟨v, t, rfl, ht, hd, hsz, k⟩
    have B := T.B
    have nd := scTrees.nd
    obtain ⟨a, xs, rfl, ha, hl, hx⟩ := ht.row
    refine ⟨_, pss_cons (ps_set (i := 1) nd rfl (Or.inl rfl) (pe_lst (pa_cons (pv 0) pa_nil)))
      (pss_cons (ps_for (passes_of rfl) rfl (pi_tup (pe_slice sl_tup (pv 0) (po_some pe_int) po_none)) (pg_name (i := 2) nd rfl (Or.inl rfl))
        (pss_one (ps_if (pt_val (pe_callB call_isi (by rfl) B.isinstance_ (by decide +kernel) (pa_cons (pv 2) (pa_cons (pe_bltn (by rfl) B.tuple_ (by decide +kernel) (show RelV (.ty "tuple") _ from rfl)) pa_nil))))
          (pss_one (ps_expr (pe_bm PySem.F.plainAttrs_list PySem.F.slot_list_extend PySem.F.type_list_extend mt_extend (pv 1) (pa_cons (pe_cx IH hr pass0 (by rfl) (pa_cons (pv 2) pa_nil) (Nat.le_refl _)) pa_nil)))) pss_nil)))
      (pss_one (ps_ret (pv 1)))), ?_⟩
    refine ⟨_, rfl, (by show 1 ≤ sizeLine; decide), fun l hl0 => ?_⟩
    have sl : Same H (upd H l (.lst [.ref a])) := same_upd hl0
    refine ⟨_, rfl, _, rfl, a, _, rfl, .inl (.inl (sl _ _ ha)), not_whole _ _, fun p1 hp1 => ?_⟩
    have s1 : Same H (upd (upd H l (.lst [.ref a])) p1 (.tup (cutV (.str t.word :: xs) (some 1) none))) := sl.trans (same_upd hp1)
    have hlp : l ≠ p1 := fun e => by rw [← e, upd_same] at hp1; cases hp1
    have ecut : cutV (.str t.word :: xs) (some 1) none = xs := by
      rw [show (1 : Int) = ((1 : Nat) : Int) from rfl, cutV_from _ _ (by simp), List.drop_one, List.tail_cons]
    rw [ecut] at s1 ⊢
    have hpos := t.parts_row
    have hszp := t.parts_length
    refine ⟨p1, rfl, ⟨xs, .inl (.inl upd_same)⟩, for_tup (xs := xs) (fun i σ H' => ∃ x1, σ = [some (.ref a), some (.ref l), x1] ∧ Same H H' ∧ H' p1 = some (.tup xs) ∧ ∃ ys, H' l = some (.lst ys) ∧ Paired (TreeAt H') (t :: (t.row.take i).flatMap fun p => apr p.2) ys)
      ⟨_, rfl, s1, upd_same, [.ref a], by rw [upd_ne hlp, upd_same], .cons (ht.tups (Same.tups s1)) .nil⟩ (fun i σ H' _ ⟨_, _, _, h, _⟩ => .inl (.inl h)) ?_ ?_⟩
    · rintro i y σ H' hy ⟨x1, rfl, s2, hp1', ys, hlys, hpd⟩
      have hi : i < t.row.length := by rw [← hl]; exact (List.getElem?_eq_some_iff.mp hy).1
      obtain ⟨p, hp⟩ : ∃ p, t.row[i]? = some p := ⟨t.row[i], List.getElem?_eq_getElem hi⟩
      have hat := (hx i p y hp hy).tups (Same.tups s2)
      have htk : (t.row.take (i + 1)).flatMap (fun p => apr p.2) = (t.row.take i).flatMap (fun p => apr p.2) ++ apr p.2 := by
        rw [List.take_add_one, hp, List.flatMap_append]
        simp
      obtain ⟨c', g⟩ := p
      cases g with
      | inl m =>
        have hat : y = .int (m : Int) := hat
        subst hat
        have htk : (t.row.take (i + 1)).flatMap (fun p => apr p.2) = (t.row.take i).flatMap (fun p => apr p.2) ++ [] := htk
        refine ⟨_, rfl, .int (m : Int), _, _, _, false, rfl, .ty "tuple", .base (.int _), kit_ty (by decide +kernel), false, rfl, iteF ⟨some (.int (m : Int)), rfl, s2, hp1', ys, hlys, ?_⟩⟩
        rw [htk, List.append_nil]
        exact hpd
      | inr b =>
        have hat : TreeAt H' b y := hat
        have hmem : b.size ≤ t.size ∧ b.depth < t.depth := by
          have hm := List.mem_of_getElem? hp
          cases t <;> simp only [Tr.row, List.mem_cons, List.not_mem_nil, or_false, Prod.mk.injEq, Sum.inr.injEq, reduceCtorEq, and_false, false_or] at hm <;> simp only [Tr.size, Tr.depth]
          · obtain ⟨_, rfl⟩ := hm; omega
          · rcases hm with ⟨_, rfl⟩ | ⟨_, rfl⟩ <;> omega
          · rcases hm with ⟨_, rfl⟩ | ⟨_, rfl⟩ | ⟨_, rfl⟩ <;> omega
        have htk : (t.row.take (i + 1)).flatMap (fun p => apr p.2) = (t.row.take i).flatMap (fun p => apr p.2) ++ b.parts := htk
        obtain ⟨a2, xs2, rfl, ha2, _, _⟩ := hat.row
        refine ⟨_, rfl, .ref a2, _, _, _, true, rfl, .ty "tuple", .base (.tup ha2), kit_ty (by decide +kernel), true, rfl, iteT ⟨_, rfl, .inl ⟨rfl, ys, SqL.of hlys⟩, _, rfl, _, b, rfl, hat, by omega, by omega, fun q H2 zs s3 hq hqz hpz => ?_⟩⟩
        have hlq : l ≠ q := fun e => by rw [← e, hlys] at hq; cases hq
        have e1 := Paired.len hpz
        have e2 := Paired.len hpd
        have e3 := b.parts_length
        have e4 : ((t.row.take i).flatMap fun p => apr p.2).length + 1 ≤ t.size := by
          have q1 := congrArg List.length hpos
          rw [List.length_cons, hszp] at q1
          have q2 : (t.row.flatMap fun p => apr p.2) = ((t.row.take i).flatMap fun p => apr p.2) ++ ((t.row.drop i).flatMap fun p => apr p.2) := by
            conv => lhs; rw [← List.take_append_drop i t.row]
            rw [List.flatMap_append]
          have q3 := congrArg List.length q2
          rw [List.length_append] at q3
          omega
        rw [List.length_cons] at e2
        refine ⟨l, q, ys, zs, rfl, rfl, s3 _ _ hlys, hqz, by rw [sizeLine_eq]; omega, some (.ref a2), rfl, ?_, ?_, ys ++ zs, upd_same, ?_⟩
        · exact same_new (s2.trans s3) hl0
        · rw [upd_ne hlp.symm]
          exact s3 _ _ hp1'
        · rw [htk, ← List.cons_append]
          exact TreesAt.tups (tups_lst (s3 _ _ hlys)) (Paired.app (TreesAt.tups (Same.tups s3) hpd) hpz)
    · rintro σ H' ⟨x1, rfl, s2, hp1', ys, hlys, hpd⟩
      refine ⟨_, rfl, ?_⟩
      rw [hl, List.take_length, ← hpos] at hpd
      exact k l H' ys s2 hl0 hlys hpd
/-! ### Form -/
theorem scForm : FnScope ["self", "tree"] ["self", "tree"] (defScope (inClass (top 22) 0)) := ⟨rfl, rfl, rfl, by decide +kernel, rfl, by decide +kernel, by decide +kernel⟩
/-- all but p stays -/
def SameBut (p : Addr) (H H' : Hp) : Prop := ∀ b o, b ≠ p → H b = some o → H' b = some o
/-- a form stands -/
def FormAt (K : PySem.W.Frag) (H : Hp) (t : Tr) (v : V) : Prop := ∃ a dx u, v = .ref a ∧ H a = some (.ins (He.ga K "Form") dx [("tree", u)]) ∧ TreeAt H t u
def spForm (K : PySem.W.Frag) : Sp := fun vs H Q _ => ∃ (p dx : Addr) (v : V) (t : Tr), vs = [.ref p, v] ∧ H p = some (.ins (He.ga K "Form") dx []) ∧ TreeAt H t v ∧ t.wf = true ∧ t.size ≤ 12 ∧ ∀ H', SameBut p H H' → H' p = some (.ins (He.ga K "Form") dx [("tree", v)]) → Q .non H'
theorem ok_form (T : Fm K mg w) : MakX CX0 P w K mg base 15 "Form" (He.ga K "Form") (spForm K) := by
  refine mak_of T.iForm scForm (fun _ _ _ _ _ _ us hl => match us, hl with | [_, _], _ => rfl) (fun vs H Q E ⟨p, dx, v, t, e, _⟩ => by rw [e]; rfl) ?_
  rintro f cdv A outer s H vs Q E hr ⟨p, dx, v, t, rfl, hp, ht, hw, hz, k⟩
  obtain ⟨tm, gm⟩ := T.mf
  have hd := t.depth_le
  have hpos := t.size_pos
  refine ⟨_, pss_cons (ps_if (pt_cmpR op_eq (pe_cx (ok_count T 12) hr pass0 (by rfl) (pa_cons (pv 1) (pa_cons (pe_glob (v := .int 12) (by rfl) gm ⟨_, rfl⟩) pa_nil)) (by decide)) pe_int (nomark _)) pss_never pss_nil)
    (pss_one (ps_fld (pv 0) (pv 1) rfl)), ?_⟩
  refine ⟨_, rfl, v, 12, t, rfl, ht, hw, by omega, by omega, fun H1 s1 => ⟨rfl, _, rfl, ?_⟩⟩
  rw [show decide (V.int (t.size : Int) = V.int 0) = false from by simp; omega]
  refine iteF ⟨_, rfl, _, rfl, p, _, dx, [], rfl, s1 _ _ hp, T.F.c, T.nT, (by show 0 < 1000; decide), ?_⟩
  refine k _ (fun b o hb e => by rw [upd_ne hb]; exact s1 _ _ e) ?_
  rw [upd_same]
  rfl
/-! ### numbers_of, calls, columns, reads -/
theorem scNums : FnScope ["self", "word", "row"] ["self", "word"] (defScope (inClass (top 22) 7)) := ⟨rfl, rfl, rfl, by decide +kernel, rfl, by decide +kernel, by decide +kernel⟩
def spNums (K : PySem.W.Frag) : Sp := fun vs H Q _ => ∃ (v : V) (z : Str) (t : Tr), vs = [v, .str z] ∧ FormAt K H t v ∧ t.size ≤ 12 ∧ (z = "call" ∨ z = "column" ∨ z = "kept") ∧ ∀ p H' (ns : List Int), Same H H' → H' p = some (.tup (ns.map V.int)) → ns.length ≤ 12 → (∀ k, k ∈ ns ↔ k ∈ numsOf z t) → Q (.ref p) H'
theorem word_nm {t : Tr} {z : Str} (h : t.word = z) (hz : z = "call" ∨ z = "column" ∨ z = "kept") : ∃ n r, t.nm = some n ∧ t.row = (r, .inl n) :: t.row.tail := by
  subst h
  cases t
  case num n => rcases hz with h | h | h <;> exact absurd h (by show ¬ (("number" : Str) = _); decide +kernel)
  case given => rcases hz with h | h | h <;> exact absurd h (by show ¬ (("given" : Str) = _); decide +kernel)
  case setting => rcases hz with h | h | h <;> exact absurd h (by show ¬ (("setting" : Str) = _); decide +kernel)
  case col n => exact ⟨n, _, rfl, rfl⟩
  case kept n => exact ⟨n, _, rfl, rfl⟩
  case call n a => exact ⟨n, _, rfl, rfl⟩
  case bin o a b =>
    exact absurd hz (by
      show ¬ (o.word = ("call" : Str) ∨ o.word = ("column" : Str) ∨ o.word = ("kept" : Str))
      clear hz
      revert o
      intro o
      cases o <;> decide +kernel)
  case whn a b c => rcases hz with h | h | h <;> exact absurd h (by show ¬ (("when" : Str) = _); decide +kernel)
theorem ok_nums (T : Fm K mg w) : MetX CX0 P w K mg base 14 (He.ga K "Form") "numbers_of" (spNums K) := by
  refine met_of T.mNums scNums (fun _ _ _ _ _ _ us hl => match us, hl with | [_, _], _ => rfl) (fun vs H Q E ⟨v, z, t, e, _⟩ => by rw [e]; rfl) ?_
  rintro f cdv A outer s H vs Q E hr ⟨v, z, t, rfl, ⟨a, dx, u, rfl, ha, ht⟩, hz, hzw, k⟩
  have B := T.B
  have nd := scNums.nd
  have hd := t.depth_le
  refine ⟨_, pss_one (ps_ret (pe_callTy call_tuple_of (by rfl) B.tuple_ (by decide +kernel) (pa_cons (pe_callB (cr_sortedSet rfl) (by rfl) B.sorted_ (by decide +kernel) (pa_cons
    (pe_scI (own := [("row", 2)]) rfl nd (pi_list (pe_cx (ok_trees T 12) hr pass0 (by rfl) (pa_cons (pe_fld (pv 0) rfl) pa_nil) (by decide))) (blkOk_by (N := ["self", "word", "row"]) (sc := defScope (inClass (top 22) 7)) (by decide +kernel))
      (fun _ _ _ _ _ => pg_name (i := 2) nd rfl (Or.inl rfl)) (fun _ _ _ _ _ => pts_one (pt_cmpR op_eq (pe_ix (ix_tupK K rfl) (pv 2) pe_int (fun _ _ => rfl)) (pv 1) (nomark _))) (fun _ _ _ _ _ => pe_ix (ix_tupK K rfl) (pv 2) pe_int (fun _ _ => rfl))) pa_nil)) pa_nil))), ?_⟩
  refine ⟨_, rfl, a, _, dx, _, _, rfl, ha, T.F.c, T.nT, rfl, u, t, rfl, ht, by omega, by omega, fun q H1 xs s1 hq hqx hpd => ?_⟩
  refine ⟨q, rfl, ⟨xs, SqL.of hqx⟩, fun D hD => scI_list (xs := xs) (fun i H' => ∃ S n, H' D = some (SetO w D S n) ∧ Same H1 H' ∧ n ≤ i ∧ ∀ k, S k = true ↔ k ∈ (t.parts.take i).filterMap (numIf z))
    ⟨_, 0, upd_same, same_upd hD, Nat.le_refl _, fun k => by simp⟩ (fun i H' _ ⟨S, n, _, s2, _⟩ => SqL.of (s2 _ _ hqx)) ?_ ?_⟩
  · rintro i x H' hx ⟨S, n, hS, s2, hn, hmem⟩
    have hlen := Paired.len hpd
    have hpl := t.parts_length
    have hi : i < t.parts.length := by rw [hlen]; exact (List.getElem?_eq_some_iff.mp hx).1
    obtain ⟨b, hb⟩ : ∃ b, t.parts[i]? = some b := ⟨t.parts[i], List.getElem?_eq_getElem hi⟩
    have hat : TreeAt H' b x := (Paired.at hpd hb hx).tups (Same.tups s2)
    obtain ⟨a2, ys, rfl, ha2, hl2, hx2⟩ := hat.row
    have htk : (t.parts.take (i + 1)).filterMap (numIf z) = (t.parts.take i).filterMap (numIf z) ++ (numIf z b).toList := by
      rw [List.take_add_one, hb, List.filterMap_append]
      cases hh : numIf z b <;> simp [hh]
    refine ⟨rfl, ?_⟩
    refine ⟨_, rfl, a2, _, 0, _, rfl, rfl, .inl (.inl ha2), atI_nat (j := 0) rfl, _, rfl, rfl, _, rfl, ?_⟩
    by_cases hw : b.word = z
    · obtain ⟨m, r, hm, hrow⟩ := word_nm hw hzw
      rw [show decide (V.str b.word = V.str z) = true from by rw [hw]; simp]
      have hy : ys[0]? = some (.int (m : Int)) := by
        have h0 : 0 < ys.length := by rw [hl2, hrow]; simp
        have e0 := List.getElem?_eq_getElem h0
        have := hx2 0 (r, .inl m) _ (by rw [hrow]; rfl) e0
        rw [e0, show ys[0] = .int (m : Int) from this]
      refine iteT ⟨_, rfl, a2, _, 1, _, rfl, rfl, .inl (.inl ha2), atI_nat (j := 1) (by simpa using hy), (m : Int), S, n, rfl, hS, by unfold scanBound; omega, _, _, upd_same, ?_, ?_, ?_⟩
      · intro b' o e
        have : b' ≠ D := fun q => by rw [q, hD] at e; cases e
        rw [upd_ne this]
        exact s2 _ _ e
      · split <;> omega
      · intro k
        rw [htk, show numIf z b = some (m : Int) from by rw [numIf, if_pos hw, hm]; rfl]
        simp only [Bool.or_eq_true, decide_eq_true_eq, hmem, List.mem_append, Option.toList_some, List.mem_singleton]
    · rw [show decide (V.str b.word = V.str z) = false from by simp; exact hw]
      refine iteF ⟨S, n, hS, s2, by omega, fun k => ?_⟩
      rw [htk, show numIf z b = none from by rw [numIf, if_neg hw]]
      simpa using hmem k
  · rintro H' ⟨S, n, hS, s2, hn, hmem⟩
    have hlen := Paired.len hpd
    have hpl := t.parts_length
    rw [← hlen, List.take_length] at hmem
    refine ⟨D, S, n, rfl, hS, by omega, fun ns p hpw hns hnl hp => ?_⟩
    refine ⟨p, _, rfl, .inl ⟨SqL.of upd_same, fun l hl => ?_⟩⟩
    refine k l _ ns ?_ upd_same (by omega) fun k => ?_
    · refine (Same.trans s1 s2).trans ((same_upd hp).trans (same_upd hl))
    · rw [hns, hmem]
      rfl
def spNumsP (K : PySem.W.Frag) (z : Str) : Sp := fun vs H Q _ => ∃ (v : V) (t : Tr), vs = [v] ∧ FormAt K H t v ∧ t.size ≤ 12 ∧ ∀ p H' (ns : List Int), Same H H' → H' p = some (.tup (ns.map V.int)) → ns.length ≤ 12 → (∀ k, k ∈ ns ↔ k ∈ numsOf z t) → Q (.ref p) H'
theorem sc_calls : FnScope ["self"] ["self"] (defScope (inClass (top 22) 8)) := ⟨rfl, rfl, rfl, by decide +kernel, rfl, by decide +kernel, by decide +kernel⟩
theorem ok_calls (T : Fm K mg w) : PrpX CX0 P w K mg base 15 (He.ga K "Form") "calls" (spNumsP K "call") := by
  refine prp_of T.pCalls sc_calls (fun _ _ _ _ _ _ us hl => match us, hl with | [_], _ => rfl) (fun vs H Q E ⟨v, t, e, _⟩ => by rw [e]; rfl) ?_
  rintro f cdv A outer s H vs Q E hr ⟨v, t, rfl, hf, hz, k⟩
  refine ⟨_, pss_one (ps_ret (pe_mx (ok_nums T) T.F.c hr pass0 (pv 0) (pa_cons pe_str pa_nil))), ?_⟩
  obtain ⟨a, dx, u, rfl, ha, ht⟩ := hf
  exact ⟨_, rfl, a, dx, _, rfl, ha, by rfl, _, "call", t, rfl, ⟨a, dx, u, rfl, ha, ht⟩, hz, by decide +kernel, k⟩
theorem sc_columns : FnScope ["self"] ["self"] (defScope (inClass (top 22) 9)) := ⟨rfl, rfl, rfl, by decide +kernel, rfl, by decide +kernel, by decide +kernel⟩
theorem ok_columns (T : Fm K mg w) : PrpX CX0 P w K mg base 15 (He.ga K "Form") "columns" (spNumsP K "column") := by
  refine prp_of T.pCols sc_columns (fun _ _ _ _ _ _ us hl => match us, hl with | [_], _ => rfl) (fun vs H Q E ⟨v, t, e, _⟩ => by rw [e]; rfl) ?_
  rintro f cdv A outer s H vs Q E hr ⟨v, t, rfl, hf, hz, k⟩
  refine ⟨_, pss_one (ps_ret (pe_mx (ok_nums T) T.F.c hr pass0 (pv 0) (pa_cons pe_str pa_nil))), ?_⟩
  obtain ⟨a, dx, u, rfl, ha, ht⟩ := hf
  exact ⟨_, rfl, a, dx, _, rfl, ha, by rfl, _, "column", t, rfl, ⟨a, dx, u, rfl, ha, ht⟩, hz, by decide +kernel, k⟩
theorem sc_reads : FnScope ["self"] ["self"] (defScope (inClass (top 22) 10)) := ⟨rfl, rfl, rfl, by decide +kernel, rfl, by decide +kernel, by decide +kernel⟩
theorem ok_reads (T : Fm K mg w) : PrpX CX0 P w K mg base 15 (He.ga K "Form") "reads" (spNumsP K "kept") := by
  refine prp_of T.pReads sc_reads (fun _ _ _ _ _ _ us hl => match us, hl with | [_], _ => rfl) (fun vs H Q E ⟨v, t, e, _⟩ => by rw [e]; rfl) ?_
  rintro f cdv A outer s H vs Q E hr ⟨v, t, rfl, hf, hz, k⟩
  refine ⟨_, pss_one (ps_ret (pe_mx (ok_nums T) T.F.c hr pass0 (pv 0) (pa_cons pe_str pa_nil))), ?_⟩
  obtain ⟨a, dx, u, rfl, ha, ht⟩ := hf
  exact ⟨_, rfl, a, dx, _, rfl, ha, by rfl, _, "kept", t, rfl, ⟨a, dx, u, rfl, ha, ht⟩, hz, by decide +kernel, k⟩
/-! ### in -/
theorem scHas : FnScope ["self", "word", "row"] ["self", "word"] (defScope (inClass (top 22) 21)) := ⟨rfl, rfl, rfl, by decide +kernel, rfl, by decide +kernel, by decide +kernel⟩
def spHas (K : PySem.W.Frag) : Sp := fun vs H Q _ => ∃ (v : V) (z : Str) (t : Tr), vs = [v, .str z] ∧ FormAt K H t v ∧ t.size ≤ 12 ∧ ∀ H', Same H H' → Q (.bl (t.parts.any fun s => decide (s.word = z))) H'
theorem ok_has (T : Fm K mg w) : MetX CX0 P w K mg base 14 (He.ga K "Form") "__contains__" (spHas K) := by
  refine met_of T.mHas scHas (fun _ _ _ _ _ _ us hl => match us, hl with | [_, _], _ => rfl) (fun vs H Q E ⟨v, z, t, e, _⟩ => by rw [e]; rfl) ?_
  rintro f cdv A outer s H vs Q E hr ⟨v, z, t, rfl, ⟨a, dx, u, rfl, ha, ht⟩, hz, k⟩
  have B := T.B
  have nd := scHas.nd
  have hd := t.depth_le
  refine ⟨_, pss_one (ps_ret (pe_and (pe_callB call_isi (by rfl) B.isinstance_ (by decide +kernel) (pa_cons (pv 1) (pa_cons (pe_bltn (by rfl) B.str_ (by decide +kernel) (show RelV (.ty "str") _ from rfl)) pa_nil)))
    (pe_one (pe_cmpR op_in_seq (pv 1) (pe_lc (own := [("row", 2)]) (by rfl) nd (pi_list (pe_cx (ok_trees T 12) hr pass0 (by rfl) (pa_cons (pe_fld (pv 0) rfl) pa_nil) (by decide))) (blkOk_by (N := ["self", "word", "row"]) (sc := defScope (inClass (top 22) 21)) (by decide +kernel))
      (fun _ _ _ _ _ => pg_name (i := 2) nd rfl (Or.inl rfl)) (fun _ _ _ _ _ => pts_nil) (fun _ _ _ _ _ => pe_ix (ix_tupK K rfl) (pv 2) pe_int (fun _ _ => rfl))) (by rfl))))), ?_⟩
  refine ⟨_, rfl, .str z, _, _, _, true, rfl, .ty "str", .base (.str z), kit_ty (by decide +kernel), true, rfl, iteT ⟨_, rfl, ?_⟩⟩
  refine ⟨_, rfl, a, _, dx, _, _, rfl, ha, T.F.c, T.nT, rfl, u, t, rfl, ht, by omega, by omega, fun q H1 xs s1 hq hqx hpd => ?_⟩
  have hpl := t.parts_length
  refine ⟨q, rfl, ⟨xs, SqL.of hqx⟩, fun D hD => lc_listS hD (SqL.of hqx) t.parts (Paired.len hpd).symm (by rw [sizeLine_eq]; omega) (fun b => some (.str b.word)) ?_ ?_⟩
  · intro i x b H' R Rz hx hb s2 _ ks
    have hat : TreeAt H' b x := (Paired.at hpd hb hx).tups (Same.tups s2)
    obtain ⟨a2, ys, rfl, ha2, hl2, hx2⟩ := hat.row
    exact ⟨rfl, iteT (B := R H') ⟨_, rfl, a2, _, 0, _, rfl, rfl, .inl (.inl ha2), atI_nat (j := 0) rfl, ks _ _ rfl (Same.refl _)⟩⟩
  · intro H' s2 hDq
    rw [List.filterMap_eq_map'] at hDq
    refine ⟨D, _, rfl, .inl (SqL.of hDq), rfl, by rw [List.all_map]; exact List.all_eq_true.mpr fun _ _ => rfl, ?_⟩
    have e : inV (.str z) (t.parts.map fun b => V.str b.word) = t.parts.any fun s => decide (s.word = z) := by
      unfold inV
      rw [List.any_map]
      congr 1
    rw [if_neg Bool.false_ne_true]
    show Q (.bl (inV (.str z) (t.parts.map fun b => V.str b.word))) H'
    rw [e]
    exact k _ (s1.trans s2)
end
end Km
set_option Elab.async false
set_option linter.all false
set_option maxRecDepth 100000
set_option maxHeartbeats 4000000
/-! books -/
namespace Km
open PySem PySem.Spec PyProof.Rows L2
theorem pe_never {X : Cx} {e : Expr} : PE X e (fun _ _ _ => False) := ⟨fun _ _ _ _ _ _ h => h.elim⟩
theorem pss_ret1 {X : Cx} {e : Expr} {te : TE} {pos : Pos} (h : PE X e te) : PSs X [.Return (some e) pos] (tSeq (tRet te) tNext) := pss_cons (ps_ret h) pss_nil
structure Bk (P : Program) (K : PySem.W.Frag) (mg : Str → Option Value) (w : World) : Prop where
  f : Fm K mg w
  mf : ∃ t, mg "MOST_FUNCTIONS" = some (.int 3 t)
  mb : ∃ t, mg "MOST_BODIES" = some (.int 3 t)
  dNums : DefG K mg "has_numbers_of" (top 27)
  dBody : DefG K mg "is_body" (top 28)
  dFuns : DefG K mg "are_functions" (top 29)
  B : ClsG K mg "Book"
  nP : NoAttr K (He.ga K "Book") "parts"
  iBook : IniG K mg "Book" "Book.__init__" (He.ga K "Book") (inClass (top 30) 0)
  pBase : PrpG K (He.ga K "Book") "base" "Book.base" (inClass (top 30) 1)
  pSettings : PrpG K (He.ga K "Book") "settings" "Book.settings" (inClass (top 30) 2)
  pFunctions : PrpG K (He.ga K "Book") "functions" "Book.functions" (inClass (top 30) 3)
  mLen : MetG K (He.ga K "Book") "__len__" "Book.__len__" (inClass (top 30) 4)
  mEq : MetG K (He.ga K "Book") "__eq__" "Book.__eq__" (inClass (top 30) 7)
  nf : PySem.W.notFirst K (He.ga K "Book") (.type "str") = true
  ks : PySem.W.kitOne K (.type "str") (.ref (He.ga K "Book")) = some false
  eB : ∃ q fI, SupTxt P K mg "BadBook" "part" q (He.ga K "BadBook") fI
section
variable {P : Program} {w : World} {K : PySem.W.Frag} {mg : Str → Option Value} {base : Heap}
/-! ### has_numbers_of -/
theorem scHasN : FnScope ["form", "base", "row"] ["form", "base"] (defScope (top 27)) := ⟨rfl, rfl, rfl, by decide +kernel, rfl, by decide +kernel, by decide +kernel⟩
def spHasN (K : PySem.W.Frag) : Sp := fun vs H Q _ => ∃ (v : V) (b : Nat) (t : Tr), vs = [v, .int (b : Int)] ∧ FormAt K H t v ∧ t.size ≤ 12 ∧ ∀ H', Same H H' → Q (.bl (t.parts.all (numLt b))) H'
def numLtO (b : Nat) : Tr → Option Bool
  | .num n => some (decide (n < b))
  | _ => none
theorem numLtO_all (b : Nat) : ∀ l : List Tr, (l.filterMap (numLtO b)).all id = l.all (numLt b)
  | [] => rfl
  | t :: l => by
    have ih := numLtO_all b l
    cases t <;> simp only [List.filterMap_cons, numLtO, List.all_cons, numLt, id, ih, Bool.true_and]
theorem ok_hasN (T : Fm K mg w) (D : DefG K mg "has_numbers_of" (top 27)) : CalX CX0 P w K mg base 14 "has_numbers_of" (spHasN K) := by
  refine cal_of D scHasN (fun _ _ _ _ _ _ us hl => match us, hl with | [_, _], _ => rfl) (fun vs H Q E ⟨v, z, t, e, _⟩ => by rw [e]; rfl) ?_
  rintro f cdv A outer s H vs Q E hr ⟨v, b, t, rfl, ⟨a, dx, u, rfl, ha, ht⟩, hz, k⟩
  have B := T.B
  have nd := scHasN.nd
  have hd := t.depth_le
  refine ⟨_, pss_one (ps_ret (pe_callB (cr_all rfl) (by rfl) B.all_ (by decide +kernel) (pa_cons
    (pe_lc (own := [("row", 2)]) (by rfl) nd (pi_list (pe_cx (ok_trees T 12) hr pass0 (by rfl) (pa_cons (pe_fld (pv 0) rfl) pa_nil) (by decide))) (blkOk_by (N := ["form", "base", "row"]) (sc := defScope (top 27)) (by decide +kernel))
      (fun _ _ _ _ _ => pg_name (i := 2) nd rfl (Or.inl rfl)) (fun _ _ _ _ _ => pts_one (pt_cmpR op_eq (pe_ix (ix_tupK K rfl) (pv 2) pe_int (fun _ _ => rfl)) pe_str (nomark _))) (fun _ _ _ _ _ => pe_cmpR op_lt (pe_ix (ix_tupK K rfl) (pv 2) pe_int (fun _ _ => rfl)) (pv 1) (nomark _))) pa_nil))), ?_⟩
  refine ⟨_, rfl, a, _, dx, _, _, rfl, ha, T.F.c, T.nT, rfl, u, t, rfl, ht, by omega, by omega, fun q H1 xs s1 hq hqx hpd => ?_⟩
  have hpl := t.parts_length
  refine ⟨q, rfl, ⟨xs, SqL.of hqx⟩, fun D hD => lc_listS hD (SqL.of hqx) t.parts (Paired.len hpd).symm (by rw [sizeLine_eq]; omega) (fun s => (numLtO b s).map V.bl) ?_ ?_⟩
  · intro i x s' H' R Rz hx hb s2 kn ks
    have hat : TreeAt H' s' x := (Paired.at hpd hb hx).tups (Same.tups s2)
    obtain ⟨a2, ys, rfl, ha2, hl2, hx2⟩ := hat.row
    refine ⟨rfl, _, rfl, a2, _, 0, _, rfl, rfl, .inl (.inl ha2), atI_nat (j := 0) rfl, rfl, _, rfl, ?_⟩
    by_cases hw : s'.word = "number"
    · rw [show decide (V.str s'.word = V.str "number") = true from by rw [hw]; rfl]
      obtain ⟨n, rfl⟩ := (word_num s').mp hw
      have hy : ys[0]? = some (.int (n : Int)) := by
        have h0 : 0 < ys.length := by rw [hl2]; exact Nat.one_pos
        have e0 := List.getElem?_eq_getElem h0
        have := hx2 0 (110, .inl n) _ rfl e0
        rw [e0, show ys[0] = .int (n : Int) from this]
      refine iteT ⟨_, rfl, a2, _, 1, _, rfl, rfl, .inl (.inl ha2), atI_nat (j := 1) (by simpa using hy), _, rfl, _, _, rfl, rfl, ks _ _ ?_ (Same.refl _)⟩
      show some (V.bl (decide (n < b))) = some (V.bl (decide ((n : Int) < (b : Int))))
      rw [show decide ((n : Int) < (b : Int)) = decide (n < b) from by simp]
    · rw [show decide (V.str s'.word = V.str "number") = false from by simp; exact hw]
      refine iteF (kn _ ?_ (Same.refl _))
      cases s' <;> first | rfl | exact absurd rfl hw
  · intro H' s2 hDq
    rw [show t.parts.filterMap (fun s => (numLtO b s).map V.bl) = (t.parts.filterMap (numLtO b)).map V.bl from (List.map_filterMap ..).symm] at hDq
    refine ⟨D, _, rfl, SqL.of hDq, ?_⟩
    rw [numLtO_all]
    exact k _ (s1.trans s2)
/-! ### is_body -/
theorem scBody : FnScope ["thing", "base", "function", "k"] ["thing", "base", "function"] (defScope (top 28)) := ⟨rfl, rfl, rfl, by decide +kernel, rfl, by decide +kernel, by decide +kernel⟩
def spBody (K : PySem.W.Frag) : Sp := fun vs H Q _ => ∃ (v : V) (b m : Nat) (t : Tr), vs = [v, .int (b : Int), .int (m : Int)] ∧ FormAt K H t v ∧ t.size ≤ 12 ∧ ∀ H', Same H H' → Q (.bl (goodT b m leafB t)) H'
theorem FormAt.same {H H' : Hp} {t : Tr} {v : V} (h : FormAt K H t v) (s : Same H H') : FormAt K H' t v := by
  obtain ⟨a, dx, u, e, ha, ht⟩ := h
  exact ⟨a, dx, u, e, s _ _ ha, ht.tups (Same.tups s)⟩
theorem ok_body (T : Bk P K mg w) : CalX CX0 P w K mg base 17 "is_body" (spBody K) := by
  refine cal_of T.dBody scBody (fun _ _ _ _ _ _ us hl => match us, hl with | [_, _, _], _ => rfl) (fun vs H Q E ⟨v, b, m, t, e, _⟩ => by rw [e]; rfl) ?_
  rintro f cdv A outer s H vs Q E hr ⟨v, b, m, t, rfl, hf, hz, k⟩
  have F := T.f
  have B := F.B
  have nd := scBody.nd
  refine ⟨_, pss_cons (ps_if (PW.pt (pw_or (pt_not (pt_val (pe_callB call_isi (by rfl) B.isinstance_ (by decide +kernel) (pa_cons (pv 0) (pa_cons (pe_glob (by rfl) F.F.g (show RelV (.ref (He.ga K "Form")) _ from rfl)) pa_nil)))))
      (pw_or1 (pt_not (pt_val (pe_cx (ok_hasN F T.dNums) hr pass0 (by rfl) (pa_cons (pv 0) (pa_cons (pv 1) pa_nil)))))))) (pss_one (ps_ret pe_bl)) pss_nil)
    (pss_one (ps_ret (pe_and (pe_cmpR (op_eqE hr.units0) (pe_px (ok_columns F) F.F.c hr pass0 (pv 0)) (pe_tup pa_nil) (nomark _))
      (pe_and (pe_cmpR (op_eqE hr.units0) (pe_px (ok_reads F) F.F.c hr pass0 (pv 0)) (pe_tup pa_nil) (nomark _))
        (pe_one (pe_callB (cr_all rfl) (by rfl) B.all_ (by decide +kernel) (pa_cons
          (pe_lc (own := [("k", 3)]) (by rfl) nd (pi_tup (pe_px (ok_calls F) F.F.c hr pass0 (pv 0))) (blkOk_by (N := ["thing", "base", "function", "k"]) (sc := defScope (top 28)) (by decide +kernel))
            (fun _ _ _ _ _ => pg_name (i := 3) nd rfl (Or.inl rfl)) (fun _ _ _ _ _ => pts_nil) (fun _ _ _ _ _ => pe_cmpR op_lt (pv 3) (pv 2) (nomark _))) pa_nil))))))), ?_⟩
  obtain ⟨a, dx, u, rfl, ha, ht⟩ := id hf
  refine ⟨_, rfl, .ref a, _, _, _, true, rfl, .own _, F.F.ty ha, F.F.it, true, rfl, iteF ⟨_, rfl, _, rfl, _, b, t, rfl, hf, hz, fun H1 s1 => ⟨_, rfl, ?_⟩⟩⟩
  cases hnl : t.parts.all (numLt b) with
  | false =>
    refine iteT ?_
    have e : goodT b m leafB t = false := by
      rw [goodB_of (n1 := numsOf "column" t) (n2 := numsOf "kept" t) (n3 := numsOf "call" t) (fun _ => Iff.rfl) (fun _ => Iff.rfl) (fun _ => Iff.rfl), hnl, Bool.false_and]
    have := k H1 s1
    rw [e] at this
    exact this
  | true =>
    refine iteF ?_
    have ha1 := s1 _ _ ha
    refine ⟨_, rfl, a, dx, _, rfl, ha1, _, t, rfl, hf.same s1, hz, fun p1 H2 n1 s2 hp1 hn1 hm1 => ⟨Nat.zero_le _, fun p2 hp2 => ?_⟩⟩
    have s3 : Same H (upd H2 p2 (.tup [])) := (s1.trans s2).trans (same_upd hp2)
    refine ⟨p1, p2, _, rfl, rfl, .inl (.inl (same_upd hp2 _ _ hp1)), .inl (.inl upd_same), _, rfl, ?_⟩
    have hn1e : (n1.map V.int).isEmpty = n1.isEmpty := by cases n1 <;> rfl
    rw [hn1e]
    cases he1 : n1.isEmpty with
    | false =>
      refine iteF ?_
      have e : goodT b m leafB t = false := by
        rw [goodB_of (n1 := n1) (n2 := numsOf "kept" t) (n3 := numsOf "call" t) hm1 (fun _ => Iff.rfl) (fun _ => Iff.rfl), he1, Bool.false_and, Bool.and_false]
      have := k _ s3
      rw [e] at this
      exact this
    | true =>
      refine iteT ⟨_, rfl, a, dx, _, rfl, s3 _ _ ha, _, t, rfl, hf.same s3, hz, fun p3 H3 n2 s4 hp3 hn2 hm2 => ⟨Nat.zero_le _, fun p4 hp4 => ?_⟩⟩
      have s5 : Same H (upd H3 p4 (.tup [])) := (s3.trans s4).trans (same_upd hp4)
      refine ⟨p3, p4, _, rfl, rfl, .inl (.inl (same_upd hp4 _ _ hp3)), .inl (.inl upd_same), _, rfl, ?_⟩
      have hn2e : (n2.map V.int).isEmpty = n2.isEmpty := by cases n2 <;> rfl
      rw [hn2e]
      cases he2 : n2.isEmpty with
      | false =>
        refine iteF ?_
        have e : goodT b m leafB t = false := by
          rw [goodB_of (n1 := n1) (n2 := n2) (n3 := numsOf "call" t) hm1 hm2 (fun _ => Iff.rfl), he2, Bool.false_and, Bool.and_false, Bool.and_false]
        have := k _ s5
        rw [e] at this
        exact this
      | true =>
        refine iteT ⟨_, rfl, a, dx, _, rfl, s5 _ _ ha, _, t, rfl, hf.same s5, hz, fun p5 H4 n3 s6 hp5 hn3 hm3 => ?_⟩
        refine ⟨p5, rfl, ⟨_, .inl (.inl hp5)⟩, fun D hD => lc_tupS hD (.inl (.inl hp5)) n3 (by simp) (by rw [sizeLine_eq]; omega) (fun x => some (.bl (decide (x < (m : Int))))) ?_ ?_⟩
        · intro i x y H' R Rz hx hy s7 _ ks
          rw [List.getElem?_map, hy] at hx
          cases hx
          exact ⟨rfl, iteT (B := R H') ⟨_, rfl, _, rfl, _, _, rfl, rfl, ks _ _ rfl (Same.refl _)⟩⟩
        · intro H' s7 hDq
          rw [List.filterMap_eq_map', show n3.map (fun x => V.bl (decide (x < (m : Int)))) = (n3.map fun x => decide (x < (m : Int))).map V.bl from by rw [List.map_map]; rfl] at hDq
          refine ⟨D, _, rfl, SqL.of hDq, ?_⟩
          have e : goodT b m leafB t = (n3.map fun x => decide (x < (m : Int))).all id := by
            rw [goodB_of hm1 hm2 hm3, hnl, he1, he2, List.all_map]
            rfl
          rw [← e]
          exact k _ ((s5.trans s6).trans s7)
/-! ### are_functions -/
def BodsAt (K : PySem.W.Frag) (H : Hp) (bs : List Tr) (v : V) : Prop := ∃ a ws, v = .ref a ∧ H a = some (.tup ws) ∧ Paired (FormAt K H) bs ws
def FunsAt (K : PySem.W.Frag) (H : Hp) (fs : List (List Tr)) (v : V) : Prop := ∃ a vs, v = .ref a ∧ H a = some (.tup vs) ∧ Paired (BodsAt K H) fs vs
def SzF (fs : List (List Tr)) : Prop := ∀ bs ∈ fs, ∀ t ∈ bs, t.size ≤ 12
theorem BodsAt.same {H H' : Hp} {t : List Tr} {v : V} (h : BodsAt K H t v) (s : Same H H') : BodsAt K H' t v := by
  obtain ⟨a, ws, e, ha, ht⟩ := h
  exact ⟨a, ws, e, s _ _ ha, L2.Paired.mapP ht fun _ _ h => h.same s⟩
theorem FunsAt.same {H H' : Hp} {t : List (List Tr)} {v : V} (h : FunsAt K H t v) (s : Same H H') : FunsAt K H' t v := by
  obtain ⟨a, ws, e, ha, ht⟩ := h
  exact ⟨a, ws, e, s _ _ ha, L2.Paired.mapP ht fun _ _ h => h.same s⟩
theorem scFuns : FnScope ["functions", "base", "function", "bodies", "one"] ["functions", "base"] (defScope (top 29)) := ⟨rfl, rfl, rfl, by decide +kernel, rfl, by decide +kernel, by decide +kernel⟩
def spFuns (K : PySem.W.Frag) : Sp := fun vs H Q _ => ∃ (v : V) (b : Nat) (fs : List (List Tr)), vs = [v, .int (b : Int)] ∧ FunsAt K H fs v ∧ SzF fs ∧ (∀ bs ∈ fs, bs.length < 5000) ∧ fs.length < 1000 ∧ ∀ H', Same H H' → Q (.bl (funsAll b fs)) H'
theorem funsOk_at {b : Nat} {fs : List (List Tr)} {i : Nat} {bs : List Tr} (h : fs[i]? = some bs) : funsOk b 0 fs = (funsOk b 0 (fs.take i) && (bsOk b i bs && funsOk b (i + 1) (fs.drop (i + 1)))) := by
  have hlt := (List.getElem?_eq_some_iff.mp h).1
  have e : fs = fs.take i ++ (bs :: fs.drop (i + 1)) := by
    conv => lhs; rw [← List.take_append_drop i fs]
    congr 1
    rw [List.drop_eq_getElem_cons hlt]
    rw [List.getElem?_eq_getElem hlt] at h
    rw [Option.some.inj h]
  conv => lhs; rw [e]
  rw [funsOk_app, List.length_take, Nat.min_eq_left (Nat.le_of_lt hlt), Nat.zero_add]
  rfl
theorem funsOk_snoc {b : Nat} {fs : List (List Tr)} {i : Nat} {bs : List Tr} (h : fs[i]? = some bs) : funsOk b 0 (fs.take (i + 1)) = (funsOk b 0 (fs.take i) && bsOk b i bs) := by
  have hlt := (List.getElem?_eq_some_iff.mp h).1
  rw [List.take_add_one, h, funsOk_app, List.length_take, Nat.min_eq_left (Nat.le_of_lt hlt), Nat.zero_add]
  simp [funsOk]
theorem ok_funs (T : Bk P K mg w) : CalX CX0 P w K mg base 18 "are_functions" (spFuns K) := by
  refine cal_of T.dFuns scFuns (fun _ _ _ _ _ _ us hl => match us, hl with | [_, _], _ => rfl) (fun vs H Q E ⟨v, b, fs, e, _⟩ => by rw [e]; rfl) ?_
  rintro f cdv A outer s H vs Q E hr ⟨v, b, fs, rfl, ⟨a, ws, rfl, ha, hpd⟩, hz, hbl, hfl, k⟩
  have F := T.f
  have B := F.B
  have nd := scFuns.nd
  obtain ⟨t1, gf⟩ := T.mf
  obtain ⟨t2, gb⟩ := T.mb
  refine ⟨_, pss_cons (ps_if (PW.pt (pw_or (pt_not (pt_val (pe_callB call_isi (by rfl) B.isinstance_ (by decide +kernel) (pa_cons (pv 0) (pa_cons (pe_bltn (by rfl) B.tuple_ (by decide +kernel) (show RelV (.ty "tuple") _ from rfl)) pa_nil)))))
      (pw_or1 (pt_not (pt_chain op_le op_le pe_int (pe_callB call_len (by rfl) B.len_ PySem.boot_len (pa_cons (pv 0) pa_nil)) (pe_glob (v := .int 3) (by rfl) gf ⟨_, rfl⟩)))))) (pss_one (ps_ret pe_bl)) pss_nil)
    (pss_cons (ps_for (passes_of rfl) rfl (pi_enumT (by rfl) B.enumerate_ (pa_cons (pv 0) pa_nil)) (pg_tup rfl (pgs_cons (pg_name (i := 2) nd rfl (Or.inr rfl)) (pgs_cons (pg_name (i := 3) nd rfl (Or.inl rfl)) pgs_nil)))
      (pss_cons (ps_if (PW.pt (pw_or (pt_not (pt_val (pe_callB call_isi (by rfl) B.isinstance_ (by decide +kernel) (pa_cons (pv 3) (pa_cons (pe_bltn (by rfl) B.tuple_ (by decide +kernel) (show RelV (.ty "tuple") _ from rfl)) pa_nil)))))
        (pw_or1 (pt_not (pt_chain op_le op_le pe_int (pe_callB call_len (by rfl) B.len_ PySem.boot_len (pa_cons (pv 3) pa_nil)) (pe_glob (v := .int 3) (by rfl) gb ⟨_, rfl⟩)))))) (pss_one (ps_ret pe_bl)) pss_nil)
      (pss_one (ps_if (pt_not (pt_val (pe_callB (cr_all rfl) (by rfl) B.all_ (by decide +kernel) (pa_cons
          (pe_lc (own := [("one", 4)]) (by rfl) nd (pi_tup (pv 3)) (blkOk_by (N := ["functions", "base", "function", "bodies", "one"]) (sc := defScope (top 29)) (by decide +kernel))
            (fun _ _ _ _ _ => pg_name (i := 4) nd rfl (Or.inl rfl)) (fun _ _ _ _ _ => pts_nil) (fun _ _ _ _ _ => pe_cx (ok_body T) hr pass0 (by rfl) (pa_cons (pv 4) (pa_cons (pv 1) (pa_cons (pv 2) pa_nil))))) pa_nil)))) (pss_one (ps_ret pe_bl)) pss_nil))))
    (pss_one (ps_ret pe_bl))), ?_⟩
  have hwl : ws.length = fs.length := (Paired.len hpd).symm
  refine ⟨_, rfl, .ref a, _, _, _, true, rfl, .ty "tuple", .base (.tup ha), kit_ty (by decide +kernel), true, rfl, iteF ?_⟩
  refine ⟨_, rfl, .ref a, _, rfl, .inr ⟨_, .inl (.inl ha), rfl⟩, 1, _, rfl, rfl, _, rfl, ?_⟩
  by_cases c1 : 1 ≤ fs.length
  case neg =>
    rw [show decide ((1 : Int) ≤ (ws.length : Int)) = false from by simp; omega]
    refine iteF ⟨false, rfl, ?_⟩
    have e : funsAll b fs = false := by unfold funsAll; rw [decide_eq_false (by omega)]; rfl
    have := k H (Same.refl _)
    rw [e] at this
    exact this
  rw [show decide ((1 : Int) ≤ (ws.length : Int)) = true from by simp; omega]
  refine iteT ⟨_, 3, rfl, rfl, _, rfl, ?_⟩
  by_cases c3 : fs.length ≤ 3
  case neg =>
    rw [show decide ((ws.length : Int) ≤ 3) = false from by simp; omega]
    have e : funsAll b fs = false := by unfold funsAll; rw [decide_eq_false (by omega)]; rfl
    have := k H (Same.refl _)
    rw [e] at this
    exact this
  rw [show decide ((ws.length : Int) ≤ 3) = true from by simp; omega]
  have hall : funsAll b fs = funsOk b 0 fs := by unfold funsAll; rw [decide_eq_true ⟨c1, c3⟩, Bool.true_and]
  refine ⟨_, rfl, a, ws, rfl, .inl (.inl ha), for_enumT (xs := ws) (fun i σ H' => ∃ x1 x2, σ = [some (.ref a), some (.int (b : Int)), x1, x2, none] ∧ Same H H' ∧ funsOk b 0 (fs.take i) = true)
    ⟨_, _, rfl, Same.refl _, rfl⟩ (fun i σ H' ⟨_, _, _, s1, _⟩ => .inl (.inl (s1 _ _ ha))) ?_ ?_⟩
  · rintro i y p σ H' hy ⟨x1, x2, rfl, s1, hok⟩ hp
    have hi : i < fs.length := by rw [← hwl]; exact (List.getElem?_eq_some_iff.mp hy).1
    obtain ⟨bs, hbs⟩ : ∃ bs, fs[i]? = some bs := ⟨fs[i], List.getElem?_eq_getElem hi⟩
    have s2 : Same H (upd H' p (.tup [.int (i : Nat), y])) := s1.trans (same_upd hp)
    have hmem := List.mem_of_getElem? hbs
    obtain ⟨a2, zs, rfl, ha2, hpz⟩ := (Paired.at hpd hbs hy).same s2
    have hzl : zs.length = bs.length := (Paired.len hpz).symm
    have hbl' := hbl bs hmem
    have bad : bsOk b i bs = false → ∀ H', Same H H' → Q (.bl false) H' := fun e H' s => by
      have := k H' s
      rw [hall, funsOk_at hbs, e, Bool.false_and, Bool.and_false] at this
      exact this
    refine ⟨p, _, rfl, .inl (.inl upd_same), rfl, _, _, rfl, _, _, rfl, rfl, ?_⟩
    refine ⟨_, rfl, .ref a2, _, _, _, true, rfl, .ty "tuple", .base (.tup ha2), kit_ty (by decide +kernel), true, rfl, iteF ?_⟩
    refine ⟨_, rfl, .ref a2, _, rfl, .inr ⟨_, .inl (.inl ha2), rfl⟩, 1, _, rfl, rfl, _, rfl, ?_⟩
    by_cases d1 : 1 ≤ bs.length
    case neg =>
      rw [show decide ((1 : Int) ≤ (zs.length : Int)) = false from by simp; omega]
      exact iteF ⟨false, rfl, bad (by unfold bsOk; rw [decide_eq_false (by omega)]; rfl) _ s2⟩
    rw [show decide ((1 : Int) ≤ (zs.length : Int)) = true from by simp; omega]
    refine iteT ⟨_, 3, rfl, rfl, _, rfl, ?_⟩
    by_cases d3 : bs.length ≤ 3
    case neg =>
      rw [show decide ((zs.length : Int) ≤ 3) = false from by simp; omega]
      exact bad (by unfold bsOk; rw [decide_eq_false (by omega)]; rfl) _ s2
    rw [show decide ((zs.length : Int) ≤ 3) = true from by simp; omega]
    have hbsk : bsOk b i bs = bs.all (goodT b i leafB) := by unfold bsOk; rw [decide_eq_true ⟨d1, d3⟩, Bool.true_and]
    refine ⟨_, rfl, a2, rfl, ⟨zs, .inl (.inl ha2)⟩, fun D hD => lc_tupS hD (.inl (.inl ha2)) bs hzl (by rw [sizeLine_eq]; omega) (fun t => some (.bl (goodT b i leafB t))) ?_ ?_⟩
    · intro j x t H2 R Rz hx ht s3 _ ks
      have hf := (Paired.at hpz ht hx).same s3
      exact ⟨rfl, iteT (B := R H2) ⟨_, rfl, _, rfl, _, rfl, _, b, i, t, rfl, hf, hz bs hmem t (List.mem_of_getElem? ht), fun H3 s4 => ks _ _ rfl s4⟩⟩
    · intro H2 s3 hDq
      rw [List.filterMap_eq_map', show bs.map (fun t => V.bl (goodT b i leafB t)) = (bs.map (goodT b i leafB)).map V.bl from by rw [List.map_map]; rfl] at hDq
      refine ⟨D, _, rfl, SqL.of hDq, _, rfl, ?_⟩
      rw [List.all_map, show (id ∘ goodT b i leafB) = goodT b i leafB from rfl, ← hbsk]
      cases hb : bsOk b i bs with
      | false => exact bad hb _ (s2.trans s3)
      | true =>
        refine iteF ⟨some (.int (i : Nat)), some (.ref a2), rfl, s2.trans s3, ?_⟩
        rw [funsOk_snoc hbs, hok, hb]
        rfl
  · rintro σ H' ⟨x1, x2, rfl, s1, hok⟩
    rw [hwl, List.take_length] at hok
    have := k H' s1
    rw [hall, hok] at this
    exact this
/-! ### Book -/
theorem SameBut.tups {p : Addr} {H H' : Hp} {C dx : Addr} {fs : List (Str × V)} (s : SameBut p H H') (hp : H p = some (.ins C dx fs)) : Tups H H' := fun c xs e => s c _ (ne_of e hp (by intro z; cases z)) e
theorem FormAt.but {p C dx : Addr} {H H' : Hp} {t : Tr} {v : V} (h : FormAt K H t v) (s : SameBut p H H') (hp : H p = some (.ins C dx [])) : FormAt K H' t v := by
  obtain ⟨a, dx', u, e, ha, ht⟩ := h
  exact ⟨a, dx', u, e, s _ _ (fun q => by rw [q, hp] at ha; cases ha) ha, ht.tups (s.tups hp)⟩
theorem FunsAt.but {p C dx : Addr} {H H' : Hp} {fs : List (List Tr)} {v : V} (h : FunsAt K H fs v) (s : SameBut p H H') (hp : H p = some (.ins C dx [])) : FunsAt K H' fs v := by
  obtain ⟨a, ws, e, ha, ht⟩ := h
  refine ⟨a, ws, e, s.tups hp _ _ ha, L2.Paired.mapP ht fun bs x h => ?_⟩
  obtain ⟨a, ws, e, ha, ht⟩ := h
  exact ⟨a, ws, e, s.tups hp _ _ ha, L2.Paired.mapP ht fun _ _ h => h.but s hp⟩
/-- a book stands -/
def BookAt (K : PySem.W.Frag) (H : Hp) (b s : Nat) (fs : List (List Tr)) (v : V) : Prop := ∃ a dx q u, v = .ref a ∧ H a = some (.ins (He.ga K "Book") dx [("parts", .ref q)]) ∧ H q = some (.tup [.int (b : Int), .int (s : Int), u]) ∧ FunsAt K H fs u
theorem BookAt.same {H H' : Hp} {b s : Nat} {fs : List (List Tr)} {v : V} (h : BookAt K H b s fs v) (s' : Same H H') : BookAt K H' b s fs v := by
  obtain ⟨a, dx, q, u, e, h1, h2, h3⟩ := h
  exact ⟨a, dx, q, u, e, s' _ _ h1, s' _ _ h2, h3.same s'⟩
theorem scBook : FnScope ["self", "base", "settings", "functions"] ["self", "base", "settings", "functions"] (defScope (inClass (top 30) 0)) := ⟨rfl, rfl, rfl, by decide +kernel, rfl, by decide +kernel, by decide +kernel⟩
def spBook (K : PySem.W.Frag) : Sp := fun vs H Q E => ∃ (p dx : Addr) (v : V) (b s : Nat) (fs : List (List Tr)), vs = [.ref p, .int (b : Int), .int (s : Int), v] ∧ H p = some (.ins (He.ga K "Book") dx []) ∧ FunsAt K H fs v ∧ SzF fs ∧ (∀ bs ∈ fs, bs.length < 5000) ∧ fs.length < 1000 ∧
  (bookBad b s fs = none → ∀ H' q, SameBut p H H' → H' p = some (.ins (He.ga K "Book") dx [("parts", .ref q)]) → H' q = some (.tup [.int (b : Int), .int (s : Int), v]) → FunsAt K H' fs v → Q .non H') ∧
  (∀ z, bookBad b s fs = some z → ∀ d H', Same H H' → H d = none → H' d = some (.xd [("part", .str z.str)]) → E (.ref (He.ga K "BadBook")) (some d) H')
theorem room_rec {k : Nat} {A : Around} (r : Room k A) : A.depth + 1 < recursionLimit := by have := r.dp; omega
theorem ok_book (T : Bk P K mg w) : MakX (L2.CX P w) P w K mg base 19 "Book" (He.ga K "Book") (spBook K) := by
  refine mak_of T.iBook scBook (fun _ _ _ _ _ _ us hl => match us, hl with | [_, _, _, _], _ => rfl) (fun vs H Q E ⟨p, dx, v, b, s, fs, e, _⟩ => by rw [e]; rfl) ?_
  rintro f cdv A outer s H vs Q E hr ⟨p, dx, v, b, st, fs, rfl, hp, hf, hz, hbl, hfl, kn, ks⟩
  have F := T.f
  have B := F.B
  obtain ⟨q, fI, eB⟩ := T.eB
  have bw := ok_between (P := P) (w := w) (K := K) (base := base) B F.dBetween
  refine ⟨_, pss_cons (ps_if (pt_not (pt_val (pe_cx bw hr pass0 (by rfl) (pa_cons (pv 1) (pa_cons pe_int (pa_cons pe_int pa_nil)))))) (pss_one (ps_raiseSup rfl eB (room_rec hr) (takes_of rfl rfl rfl rfl) (pa_cons pe_str pa_nil) (by rfl))) pss_nil)
    (pss_cons (ps_if (pt_not (pt_val (pe_cx bw hr pass0 (by rfl) (pa_cons (pv 2) (pa_cons pe_int (pa_cons (pv 1) pa_nil)))))) (pss_one (ps_raiseSup rfl eB (room_rec hr) (takes_of rfl rfl rfl rfl) (pa_cons pe_str pa_nil) (by rfl))) pss_nil)
    (pss_cons (ps_if (pt_not (pt_val (pe_cx (ok_funs T) hr pass0 (by rfl) (pa_cons (pv 3) (pa_cons (pv 1) pa_nil))))) (pss_one (ps_raiseSup rfl eB (room_rec hr) (takes_of rfl rfl rfl rfl) (pa_cons pe_str pa_nil) (by rfl))) pss_nil)
    (pss_one (ps_fld (pv 0) (pe_tup (pa_cons (pv 1) (pa_cons (pv 2) (pa_cons (pv 3) pa_nil)))) rfl)))), ?_⟩
  refine ⟨_, rfl, _, _, _, rfl, _, rfl, ?_⟩
  by_cases c1 : 2 ≤ b ∧ b ≤ 3
  case neg =>
    rw [show (decide ((2 : Int) ≤ (b : Int)) && decide ((b : Int) ≤ 3)) = false from by rw [Bool.and_eq_false_iff]; simp only [decide_eq_false_iff_not]; omega]
    refine iteT ⟨_, rfl, fun d hd => ks .base (by unfold bookBad; rw [if_pos c1]) d _ (same_upd hd) hd upd_same⟩
  rw [show (decide ((2 : Int) ≤ (b : Int)) && decide ((b : Int) ≤ 3)) = true from by rw [Bool.and_eq_true]; simp only [decide_eq_true_eq]; omega]
  refine iteF ⟨_, rfl, _, rfl, _, _, _, rfl, _, rfl, ?_⟩
  by_cases c2 : 1 ≤ st ∧ st ≤ b
  case neg =>
    rw [show (decide ((1 : Int) ≤ (st : Int)) && decide ((st : Int) ≤ (b : Int))) = false from by rw [Bool.and_eq_false_iff]; simp only [decide_eq_false_iff_not]; omega]
    refine iteT ⟨_, rfl, fun d hd => ks .settings (by unfold bookBad; rw [if_neg (not_not_intro c1), if_pos c2]) d _ (same_upd hd) hd upd_same⟩
  rw [show (decide ((1 : Int) ≤ (st : Int)) && decide ((st : Int) ≤ (b : Int))) = true from by rw [Bool.and_eq_true]; simp only [decide_eq_true_eq]; omega]
  refine iteF ⟨_, rfl, _, rfl, v, b, fs, rfl, hf, hz, hbl, hfl, fun H1 s1 => ⟨_, rfl, ?_⟩⟩
  cases c3 : funsAll b fs with
  | false =>
    refine iteT ⟨_, rfl, fun d hd => ks .functions (by unfold bookBad; rw [if_neg (not_not_intro c1), if_neg (not_not_intro c2), if_pos c3]) d _ (s1.trans (same_upd hd)) ?_ upd_same⟩
    exact Same.free s1 hd
  | true =>
    refine iteF ⟨_, rfl, _, rfl, _, rfl, (by show 3 ≤ sizeLine; decide), fun q hq => ?_⟩
    have hpq : p ≠ q := ne_of_none (s1 _ _ hp) hq
    refine ⟨_, rfl, p, _, dx, [], rfl, (by rw [upd_ne hpq]; exact s1 _ _ hp), T.B.c, T.nP, (by show 0 < 1000; decide), ?_⟩
    have hqp : q ≠ p := hpq.symm
    have sb : SameBut p H (upd (upd H1 q (.tup [.int (b : Int), .int (st : Int), v])) p (.ins (He.ga K "Book") dx (putF "parts" (.ref q) []))) := fun c o hc e => by
      rw [upd_ne hc]
      exact same_new s1 (Same.free s1 hq) c o e
    refine kn (by unfold bookBad; rw [if_neg (not_not_intro c1), if_neg (not_not_intro c2), if_neg (by rw [c3]; decide)]) _ q sb (by rw [upd_same]; rfl) (by rw [upd_ne hqp, upd_same]) ?_
    exact hf.but sb hp
/-! ### its parts -/
theorem scP1 : FnScope ["self"] ["self"] (defScope (inClass (top 30) 1)) := ⟨rfl, rfl, rfl, by decide +kernel, rfl, by decide +kernel, by decide +kernel⟩
theorem scP2 : FnScope ["self"] ["self"] (defScope (inClass (top 30) 2)) := ⟨rfl, rfl, rfl, by decide +kernel, rfl, by decide +kernel, by decide +kernel⟩
theorem scP3 : FnScope ["self"] ["self"] (defScope (inClass (top 30) 3)) := ⟨rfl, rfl, rfl, by decide +kernel, rfl, by decide +kernel, by decide +kernel⟩
theorem scP4 : FnScope ["self"] ["self"] (defScope (inClass (top 30) 4)) := ⟨rfl, rfl, rfl, by decide +kernel, rfl, by decide +kernel, by decide +kernel⟩
theorem scP7 : FnScope ["self", "other"] ["self", "other"] (defScope (inClass (top 30) 7)) := ⟨rfl, rfl, rfl, by decide +kernel, rfl, by decide +kernel, by decide +kernel⟩
def spP1 (K : PySem.W.Frag) : Sp := fun vs H Q _ => ∃ (v : V) (b s : Nat) (fs : List (List Tr)), vs = [v] ∧ BookAt K H b s fs v ∧ Q (.int (b : Int)) H
def spP2 (K : PySem.W.Frag) : Sp := fun vs H Q _ => ∃ (v : V) (b s : Nat) (fs : List (List Tr)), vs = [v] ∧ BookAt K H b s fs v ∧ Q (.int (s : Int)) H
def spP3 (K : PySem.W.Frag) : Sp := fun vs H Q _ => ∃ (v : V) (b s : Nat) (fs : List (List Tr)), vs = [v] ∧ BookAt K H b s fs v ∧ ∀ u, FunsAt K H fs u → Q u H
def spP4 (K : PySem.W.Frag) : Sp := fun vs H Q _ => ∃ (v : V) (b s : Nat) (fs : List (List Tr)), vs = [v] ∧ BookAt K H b s fs v ∧ Q (.int (fs.length : Int)) H
def spP7 (K : PySem.W.Frag) : Sp := fun vs H Q _ => ∃ (v : V) (z : Str) (b s : Nat) (fs : List (List Tr)), vs = [v, .str z] ∧ BookAt K H b s fs v ∧ Q (.bl false) H
theorem ok_p1 (T : Bk P K mg w) : PrpX CX0 P w K mg base 1 (He.ga K "Book") "base" (spP1 K) := by
  refine prp_of T.pBase scP1 (fun _ _ _ _ _ _ us hl => match us, hl with | [_], _ => rfl) (fun vs H Q E ⟨v, b, s, fs, e, _⟩ => by rw [e]; rfl) ?_
  rintro f cdv A outer s H vs Q E hr ⟨v, b, st, fs, rfl, ⟨a, dx, q, u, rfl, h1, h2, h3⟩, k⟩
  exact ⟨_, pss_one (ps_ret (pe_ix ix_tup (pe_fld (pv 0) rfl) pe_int (fun _ _ => rfl))), _, rfl, a, _, dx, _, _, rfl, h1, T.B.c, T.nP, rfl, q, _, 0, _, rfl, rfl, .inl (.inl h2), atI_nat (j := 0) rfl, k⟩
theorem ok_p2 (T : Bk P K mg w) : PrpX CX0 P w K mg base 1 (He.ga K "Book") "settings" (spP2 K) := by
  refine prp_of T.pSettings scP2 (fun _ _ _ _ _ _ us hl => match us, hl with | [_], _ => rfl) (fun vs H Q E ⟨v, b, s, fs, e, _⟩ => by rw [e]; rfl) ?_
  rintro f cdv A outer s H vs Q E hr ⟨v, b, st, fs, rfl, ⟨a, dx, q, u, rfl, h1, h2, h3⟩, k⟩
  exact ⟨_, pss_one (ps_ret (pe_ix ix_tup (pe_fld (pv 0) rfl) pe_int (fun _ _ => rfl))), _, rfl, a, _, dx, _, _, rfl, h1, T.B.c, T.nP, rfl, q, _, 1, _, rfl, rfl, .inl (.inl h2), atI_nat (j := 1) rfl, k⟩
theorem ok_p3 (T : Bk P K mg w) : PrpX CX0 P w K mg base 1 (He.ga K "Book") "functions" (spP3 K) := by
  refine prp_of T.pFunctions scP3 (fun _ _ _ _ _ _ us hl => match us, hl with | [_], _ => rfl) (fun vs H Q E ⟨v, b, s, fs, e, _⟩ => by rw [e]; rfl) ?_
  rintro f cdv A outer s H vs Q E hr ⟨v, b, st, fs, rfl, ⟨a, dx, q, u, rfl, h1, h2, h3⟩, k⟩
  exact ⟨_, pss_one (ps_ret (pe_ix ix_tup (pe_fld (pv 0) rfl) pe_int (fun _ _ => rfl))), _, rfl, a, _, dx, _, _, rfl, h1, T.B.c, T.nP, rfl, q, _, 2, _, rfl, rfl, .inl (.inl h2), atI_nat (j := 2) rfl, k u h3⟩
theorem ok_p4 (T : Bk P K mg w) : MetX CX0 P w K mg base 3 (He.ga K "Book") "__len__" (spP4 K) := by
  refine met_of T.mLen scP4 (fun _ _ _ _ _ _ us hl => match us, hl with | [_], _ => rfl) (fun vs H Q E ⟨v, b, s, fs, e, _⟩ => by rw [e]; rfl) ?_
  rintro f cdv A outer s H vs Q E hr ⟨v, b, st, fs, rfl, ⟨a, dx, q, u, rfl, h1, h2, h3⟩, k⟩
  have B := T.f.B
  refine ⟨_, pss_one (ps_ret (pe_callB call_len (by rfl) B.len_ PySem.boot_len (pa_cons (pe_px (ok_p3 T) T.B.c hr pass0 (pv 0)) pa_nil))), _, rfl, a, dx, _, rfl, h1, _, b, st, fs, rfl, ⟨a, dx, q, u, rfl, h1, h2, h3⟩, fun u' h' => ?_⟩
  obtain ⟨a', ws, rfl, ha', hp'⟩ := h'
  exact ⟨_, fs.length, rfl, .inr ⟨ws, .inl (.inl ha'), Paired.len hp'⟩, k⟩
theorem ok_p7 (T : Bk P K mg w) : MetX CX0 P w K mg base 1 (He.ga K "Book") "__eq__" (spP7 K) := by
  refine met_of T.mEq scP7 (fun _ _ _ _ _ _ us hl => match us, hl with | [_, _], _ => rfl) (fun vs H Q E ⟨v, z, b, s, fs, e, _⟩ => by rw [e]; rfl) ?_
  rintro f cdv A outer s H vs Q E hr ⟨v, z, b, st, fs, rfl, _, k⟩
  have B := T.f.B
  exact ⟨_, pss_one (ps_ret (pe_and (pe_callB call_isi (by rfl) B.isinstance_ (by decide +kernel) (pa_cons (pv 1) (pa_cons (pe_glob (by rfl) T.B.g (show RelV (.ref (He.ga K "Book")) _ from rfl)) pa_nil))) (pe_one pe_never))),
    _, rfl, .str z, _, _, _, false, rfl, .own _, .base (.str z), T.ks, false, rfl, k⟩
end
end Km
set_option Elab.async false
set_option linter.all false
set_option maxRecDepth 100000
set_option maxHeartbeats 4000000
/-! plans -/
namespace Km
open PySem PySem.Spec PyProof.Rows L2
theorem call_lenK (K : PySem.W.Frag) {X : Cx} (h : X.K = K) : CallR X (.builtin "len") (fun xs H Q => ∃ x n, xs = [x] ∧ LenV K x H n ∧ Q (.int n) H) := h ▸ call_len
structure Pl (P : Program) (K : PySem.W.Frag) (mg : Str → Option Value) (w : World) : Prop where
  b : Bk P K mg w
  mt : ∃ t, mg "MOST_THINGS" = some (.int 3 t)
  modes : mg "MODES" = some (.ref (He.ga K "MODES"))
  modesT : ∀ H, SqT K H (He.ga K "MODES") [.str "kept", .str "again", .str "check"]
  dForm : DefG K mg "is_form_of" (top 40)
  dThings : DefG K mg "are_things" (top 41)
  dRis : DefG K mg "is_rising" (top 42)
  C : ClsG K mg "Plan"
  nP : NoAttr K (He.ga K "Plan") "parts"
  iPlan : ∃ f fd, FunD K "__init__" "Plan.__init__" (defArgs (inClass (top 43) 0)) (defBody (inClass (top 43) 0)) (defScope (inClass (top 43) 0)) [] [("free", .non), ("writers", .non), ("askers", .non)] f fd ∧ mg "Plan" = some (.ref (He.ga K "Plan")) ∧ Mk K (He.ga K "Plan") f
  mEq : MetG K (He.ga K "Plan") "__eq__" "Plan.__eq__" (inClass (top 43) 10)
  nf : PySem.W.notFirst K (He.ga K "Plan") (.type "str") = true
  ks : PySem.W.kitOne K (.type "str") (.ref (He.ga K "Plan")) = some false
  eP : ∃ q fI, SupTxt P K mg "BadPlan" "part" q (He.ga K "BadPlan") fI
section
variable {P : Program} {w : World} {K : PySem.W.Frag} {mg : Str → Option Value} {base : Heap}
def ThingAt (K : PySem.W.Frag) (H : Hp) (p : Mode × Tr) (v : V) : Prop := ∃ a u, v = .ref a ∧ H a = some (.tup [.str p.1.str, u]) ∧ FormAt K H p.2 u
def ThingsAt (K : PySem.W.Frag) (H : Hp) (ths : List (Mode × Tr)) (v : V) : Prop := ∃ a vs, v = .ref a ∧ H a = some (.tup vs) ∧ Paired (ThingAt K H) ths vs
theorem ThingAt.same {H H' : Hp} {t : Mode × Tr} {v : V} (h : ThingAt K H t v) (s : Same H H') : ThingAt K H' t v := by
  obtain ⟨a, ws, e, ha, ht⟩ := h
  exact ⟨a, ws, e, s _ _ ha, ht.same s⟩
theorem ThingsAt.same {H H' : Hp} {t : List (Mode × Tr)} {v : V} (h : ThingsAt K H t v) (s : Same H H') : ThingsAt K H' t v := by
  obtain ⟨a, ws, e, ha, ht⟩ := h
  exact ⟨a, ws, e, s _ _ ha, L2.Paired.mapP ht fun _ _ h => h.same s⟩
/-! ### is_form_of -/
theorem scIsForm : FnScope ["book", "columns", "ahead", "form", "k", "c", "t"] ["book", "columns", "ahead", "form"] (defScope (top 40)) := ⟨rfl, rfl, rfl, by decide +kernel, rfl, by decide +kernel, by decide +kernel⟩
def spIsForm (K : PySem.W.Frag) : Sp := fun vs H Q _ => ∃ (bv av fv : V) (b s c : Nat) (fs : List (List Tr)) (ths : List (Mode × Tr)) (t : Tr), vs = [bv, .int (c : Int), av, fv] ∧ BookAt K H b s fs bv ∧ fs.length < 1000 ∧ ThingsAt K H ths av ∧ ths.length < 1000 ∧ FormAt K H t fv ∧ t.size ≤ 12 ∧ ∀ H', Same H H' → Q (.bl (goodT b fs.length (leafP c (flags ths)) t)) H'
theorem ok_isForm (T : Pl P K mg w) : CalX CX0 P w K mg base 18 "is_form_of" (spIsForm K) := by
  refine cal_of T.dForm scIsForm (fun _ _ _ _ _ _ us hl => match us, hl with | [_, _, _, _], _ => rfl) (fun vs H Q E ⟨bv, av, fv, b, s, c, fs, ths, t, e, _⟩ => by rw [e]; rfl) ?_
  rintro f cdv A outer s H vs Q E hr ⟨bv, av, fv, b, st, c, fs, ths, t, rfl, hbk, hfl, hth, hthl, hf, hz, k⟩
  have F := T.b.f
  have B := F.B
  have nd := scIsForm.nd
  refine ⟨_, pss_cons (ps_if (PW.pt (pw_or (pt_not (pt_val (pe_callB call_isi (by rfl) B.isinstance_ (by decide +kernel) (pa_cons (pv 3) (pa_cons (pe_glob (by rfl) F.F.g (show RelV (.ref (He.ga K "Form")) _ from rfl)) pa_nil)))))
      (pw_or (pt_not (pt_val (pe_cx (ok_hasN F T.b.dNums) hr pass0 (by rfl) (pa_cons (pv 3) (pa_cons (pe_px (ok_p1 T.b) T.b.B.c hr pass0 (pv 0)) pa_nil)))))
        (pw_or1 (pt_cmpR (op_inOwn (ok_has F) hr pass0) pe_str (pv 3) (by rfl)))))) (pss_one (ps_ret pe_bl)) pss_nil)
    (pss_cons (ps_if (PW.pt (pw_or (pt_not (pt_val (pe_callB (cr_all rfl) (by rfl) B.all_ (by decide +kernel) (pa_cons
          (pe_lc (own := [("k", 4)]) (by rfl) nd (pi_tup (pe_px (ok_calls F) F.F.c hr pass0 (pv 3))) (blkOk_by (N := ["book", "columns", "ahead", "form", "k", "c", "t"]) (sc := defScope (top 40)) (by decide +kernel))
            (fun _ _ _ _ _ => pg_name (i := 4) nd rfl (Or.inl rfl)) (fun _ _ _ _ _ => pts_nil) (fun _ _ _ _ _ => pe_cmpR op_lt (pv 4) (pe_callB (call_lenOwn (ok_p4 T.b) hr pass0) (by rfl) B.len_ PySem.boot_len (pa_cons (pv 0) pa_nil)) (nomark _))) pa_nil))))
      (pw_or1 (pt_not (pt_val (pe_callB (cr_all rfl) (by rfl) B.all_ (by decide +kernel) (pa_cons
          (pe_lc (own := [("c", 5)]) (by rfl) nd (pi_tup (pe_px (ok_columns F) F.F.c hr pass0 (pv 3))) (blkOk_by (N := ["book", "columns", "ahead", "form", "k", "c", "t"]) (sc := defScope (top 40)) (by decide +kernel))
            (fun _ _ _ _ _ => pg_name (i := 5) nd rfl (Or.inl rfl)) (fun _ _ _ _ _ => pts_nil) (fun _ _ _ _ _ => pe_cmpR op_lt (pv 5) (pv 1) (nomark _))) pa_nil))))))) (pss_one (ps_ret pe_bl)) pss_nil)
    (pss_one (ps_ret (pe_callB (cr_all rfl) (by rfl) B.all_ (by decide +kernel) (pa_cons
          (pe_lc (own := [("t", 6)]) (by rfl) nd (pi_tup (pe_px (ok_reads F) F.F.c hr pass0 (pv 3))) (blkOk_by (N := ["book", "columns", "ahead", "form", "k", "c", "t"]) (sc := defScope (top 40)) (by decide +kernel))
            (fun _ _ _ _ _ => pg_name (i := 6) nd rfl (Or.inl rfl)) (fun _ _ _ _ _ => pts_nil) (fun _ _ _ _ _ => pe_and (pe_cmpR op_lt (pv 6) (pe_callB (call_lenK K rfl) (by rfl) B.len_ PySem.boot_len (pa_cons (pv 2) pa_nil)) (nomark _))
              (pe_one (pe_cmpR op_eq (pe_ix (ix_tupK K rfl) (pe_ix (ix_tupK K rfl) (pv 2) (pv 6) (fun _ _ => rfl)) pe_int (fun _ _ => rfl)) pe_str (nomark _))))) pa_nil))))), ?_⟩
  obtain ⟨a, dx, u, rfl, ha, ht⟩ := id hf
  obtain ⟨ab, dxb, qb, ub, rfl, hb1, hb2, hb3⟩ := id hbk
  obtain ⟨aa, as, rfl, haa, hpa⟩ := id hth
  have hal : as.length = ths.length := (Paired.len hpa).symm
  -- the ways that end early
  have bad : ∀ {n1 n2 n3 : List Int} (h1 : ∀ k, k ∈ n1 ↔ k ∈ numsOf "call" t) (h2 : ∀ k, k ∈ n2 ↔ k ∈ numsOf "column" t) (h3 : ∀ k, k ∈ n3 ↔ k ∈ numsOf "kept" t),
      (t.parts.all (numLt b) && (!(t.parts.any fun s => decide (s.word = "given")) && ((n1.all fun k => decide (k < (fs.length : Int))) && ((n2.all fun k => decide (k < (c : Int))) && n3.all fun k => decide (0 ≤ k) && ((flags ths)[k.toNat]? == some true))))) = false → ∀ H', Same H H' → Q (.bl false) H' := fun h1 h2 h3 e H' s => by
    have := k H' s
    rw [goodP_of h1 h2 h3, e] at this
    exact this
  refine ⟨_, rfl, .ref a, _, _, _, true, rfl, .own _, F.F.ty ha, F.F.it, true, rfl, iteF ⟨_, rfl, _, rfl, ab, dxb, _, rfl, hb1, .ref ab, b, st, fs, rfl, hbk, _, b, t, rfl, hf, hz, fun H1 s1 => ⟨_, rfl, ?_⟩⟩⟩
  cases hnl : t.parts.all (numLt b) with
  | false => exact iteT (bad (fun _ => Iff.rfl) (fun _ => Iff.rfl) (fun _ => Iff.rfl) (by rw [hnl]; rfl) _ s1)
  | true =>
    refine iteF ⟨_, rfl, a, dx, _, rfl, s1 _ _ ha, .ref a, "given", t, rfl, hf.same s1, hz, fun H2 s2 => ⟨_, rfl, _, rfl, ?_⟩⟩
    have s2 := s1.trans s2
    cases hgv : t.parts.any fun s => decide (s.word = "given") with
    | true => exact iteT (bad (fun _ => Iff.rfl) (fun _ => Iff.rfl) (fun _ => Iff.rfl) (by rw [hnl, hgv]; rfl) _ s2)
    | false =>
      refine iteF ⟨_, rfl, a, dx, _, rfl, s2 _ _ ha, .ref a, t, rfl, hf.same s2, hz, fun p1 H3 n1 s3 hp1 hn1 hm1 => ?_⟩
      have s3 := s2.trans s3
      refine ⟨p1, rfl, ⟨_, .inl (.inl hp1)⟩, fun D1 hD1 => lc_tupS hD1 (.inl (.inl hp1)) n1 (by simp) (by rw [sizeLine_eq]; omega) (fun x => some (.bl (decide (x < (fs.length : Int))))) ?_ ?_⟩
      · intro i x y H' R Rz hx hy s4 _ ks
        rw [List.getElem?_map, hy] at hx
        cases hx
        exact ⟨rfl, iteT (B := R H') ⟨_, rfl, _, rfl, ab, dxb, _, rfl, (s3.trans s4) _ _ hb1, .ref ab, b, st, fs, rfl, hbk.same (s3.trans s4), fs.length, rfl, by omega, _, _, rfl, rfl, ks _ _ rfl (Same.refl _)⟩⟩
      · intro H4 s4 hDq
        have s4 := s3.trans s4
        rw [List.filterMap_eq_map', show n1.map (fun x => V.bl (decide (x < (fs.length : Int)))) = (n1.map fun x => decide (x < (fs.length : Int))).map V.bl from by rw [List.map_map]; rfl] at hDq
        refine ⟨D1, _, rfl, SqL.of hDq, _, rfl, ?_⟩
        rw [List.all_map, show (id ∘ fun x => decide (x < (fs.length : Int))) = fun x => decide (x < (fs.length : Int)) from rfl]
        cases hk1 : n1.all fun k => decide (k < (fs.length : Int)) with
        | false => exact iteT (bad hm1 (fun _ => Iff.rfl) (fun _ => Iff.rfl) (by rw [hnl, hgv, hk1]; rfl) _ s4)
        | true =>
          refine iteF ⟨_, rfl, a, dx, _, rfl, s4 _ _ ha, .ref a, t, rfl, hf.same s4, hz, fun p2 H5 n2 s5 hp2 hn2 hm2 => ?_⟩
          have s5 := s4.trans s5
          refine ⟨p2, rfl, ⟨_, .inl (.inl hp2)⟩, fun D2 hD2 => lc_tupS hD2 (.inl (.inl hp2)) n2 (by simp) (by rw [sizeLine_eq]; omega) (fun x => some (.bl (decide (x < (c : Int))))) ?_ ?_⟩
          · intro i x y H' R Rz hx hy s6 _ ks
            rw [List.getElem?_map, hy] at hx
            cases hx
            exact ⟨rfl, iteT (B := R H') ⟨_, rfl, _, rfl, _, _, rfl, rfl, ks _ _ rfl (Same.refl _)⟩⟩
          · intro H6 s6 hDq2
            have s6 := s5.trans s6
            rw [List.filterMap_eq_map', show n2.map (fun x => V.bl (decide (x < (c : Int)))) = (n2.map fun x => decide (x < (c : Int))).map V.bl from by rw [List.map_map]; rfl] at hDq2
            refine ⟨D2, _, rfl, SqL.of hDq2, _, rfl, ?_⟩
            rw [List.all_map, show (id ∘ fun x => decide (x < (c : Int))) = fun x => decide (x < (c : Int)) from rfl]
            cases hk2 : n2.all fun k => decide (k < (c : Int)) with
            | false => exact iteT (bad hm1 hm2 (fun _ => Iff.rfl) (by rw [hnl, hgv, hk1, hk2]; rfl) _ s6)
            | true =>
              refine iteF ⟨_, rfl, a, dx, _, rfl, s6 _ _ ha, .ref a, t, rfl, hf.same s6, hz, fun p3 H7 n3 s7 hp3 hn3 hm3 => ?_⟩
              have s7 := s6.trans s7
              refine ⟨p3, rfl, ⟨_, .inl (.inl hp3)⟩, fun D3 hD3 => lc_tupS hD3 (.inl (.inl hp3)) n3 (by simp) (by rw [sizeLine_eq]; omega) (fun k => some (.bl (decide (0 ≤ k) && ((flags ths)[k.toNat]? == some true)))) ?_ ?_⟩
              · intro i x y H' R Rz hx hy s8 _ ks
                rw [List.getElem?_map, hy] at hx
                cases hx
                have hy0 : 0 ≤ y := nums_nonneg ((hm3 y).mp (List.mem_of_getElem? hy))
                obtain ⟨n, rfl⟩ : ∃ n : Nat, y = (n : Int) := ⟨y.toNat, by omega⟩
                refine ⟨rfl, iteT (B := R H') ⟨_, rfl, _, rfl, .ref aa, _, rfl, .inr ⟨as, .inl (.inl ((s7.trans s8) _ _ haa)), rfl⟩, _, _, rfl, rfl, _, rfl, ?_⟩⟩
                by_cases hn : n < as.length
                · rw [show decide ((n : Int) < (as.length : Int)) = true from by simp; omega]
                  have hnt : n < ths.length := by omega
                  obtain ⟨tu, utu, e1, e2, e3⟩ := (Paired.at hpa (List.getElem?_eq_getElem hnt) (List.getElem?_eq_getElem hn)).same (s7.trans s8)
                  refine iteT ⟨_, rfl, _, rfl, aa, as, (n : Int), _, rfl, rfl, .inl (.inl ((s7.trans s8) _ _ haa)), atI_nat (j := n) (List.getElem?_eq_getElem hn), tu, _, 0, _, e1, rfl, .inl (.inl e2), atI_nat (j := 0) rfl, rfl, ks _ _ ?_ (Same.refl _)⟩
                  show some (V.bl (decide (0 ≤ (n : Int)) && ((flags ths)[(n : Int).toNat]? == some true))) = some (V.bl (decide (V.str (ths[n]).1.str = V.str "kept")))
                  have e4 : (flags ths)[n]? = some (decide ((ths[n]).1 = .kept)) := by
                    unfold flags
                    rw [List.getElem?_map, List.getElem?_eq_getElem hnt]
                    rfl
                  rw [Int.toNat_natCast, e4, decide_eq_true (Int.natCast_nonneg n), Bool.true_and]
                  cases (ths[n]).1 <;> rfl
                · rw [show decide ((n : Int) < (as.length : Int)) = false from by simp; omega]
                  refine iteF (ks _ _ ?_ (Same.refl _))
                  show some (V.bl (decide (0 ≤ (n : Int)) && ((flags ths)[(n : Int).toNat]? == some true))) = some (V.bl false)
                  have e4 : (flags ths)[n]? = none := List.getElem?_eq_none (by unfold flags; rw [List.length_map]; omega)
                  rw [Int.toNat_natCast, e4]
                  simp
              · intro H8 s8 hDq3
                have s8 := s7.trans s8
                rw [List.filterMap_eq_map', show n3.map (fun k => V.bl (decide (0 ≤ k) && ((flags ths)[k.toNat]? == some true))) = (n3.map fun k => decide (0 ≤ k) && ((flags ths)[k.toNat]? == some true)).map V.bl from by rw [List.map_map]; rfl] at hDq3
                refine ⟨D3, _, rfl, SqL.of hDq3, ?_⟩
                have e : goodT b fs.length (leafP c (flags ths)) t = (n3.map fun k => decide (0 ≤ k) && ((flags ths)[k.toNat]? == some true)).all id := by
                  rw [goodP_of hm1 hm2 hm3, hnl, hgv, hk1, hk2, List.all_map]
                  rfl
                rw [← e]
                exact k _ s8
/-! ### are_things -/
theorem scThings : FnScope ["book", "columns", "things", "at", "pair"] ["book", "columns", "things"] (defScope (top 41)) := ⟨rfl, rfl, rfl, by decide +kernel, rfl, by decide +kernel, by decide +kernel⟩
def SzT (ths : List (Mode × Tr)) : Prop := ∀ p ∈ ths, p.2.size ≤ 12
def spThings (K : PySem.W.Frag) : Sp := fun vs H Q _ => ∃ (bv tv : V) (b s c : Nat) (fs : List (List Tr)) (ths : List (Mode × Tr)), vs = [bv, .int (c : Int), tv] ∧ BookAt K H b s fs bv ∧ fs.length < 1000 ∧ ThingsAt K H ths tv ∧ ths.length < 1000 ∧ SzT ths ∧ ∀ H', Same H H' → Q (.bl (thAll b fs.length c ths)) H'
theorem flags_take (ths : List (Mode × Tr)) (i : Nat) : flags (ths.take i) = (flags ths).take i := by unfold flags; rw [List.map_take]
theorem thOk_at {b m c : Nat} {ths : List (Mode × Tr)} {i : Nat} {p : Mode × Tr} (h : ths[i]? = some p) : thOk b m c [] ths = (thOk b m c [] (ths.take i) && (goodT b m (leafP c (flags (ths.take i))) p.2 && thOk b m c (flags (ths.take i) ++ [decide (p.1 = .kept)]) (ths.drop (i + 1)))) := by
  have hlt := (List.getElem?_eq_some_iff.mp h).1
  have e : ths = ths.take i ++ (p :: ths.drop (i + 1)) := by
    conv => lhs; rw [← List.take_append_drop i ths]
    congr 1
    rw [List.drop_eq_getElem_cons hlt]
    rw [List.getElem?_eq_getElem hlt] at h
    rw [Option.some.inj h]
  conv => lhs; rw [e]
  rw [thOk_app, List.nil_append]
  rfl
theorem thOk_snoc {b m c : Nat} {ths : List (Mode × Tr)} {i : Nat} {p : Mode × Tr} (h : ths[i]? = some p) : thOk b m c [] (ths.take (i + 1)) = (thOk b m c [] (ths.take i) && goodT b m (leafP c (flags (ths.take i))) p.2) := by
  rw [List.take_add_one, h, thOk_app, List.nil_append]
  simp [thOk]
theorem ok_things (T : Pl P K mg w) : CalX CX0 P w K mg base 19 "are_things" (spThings K) := by
  refine cal_of T.dThings scThings (fun _ _ _ _ _ _ us hl => match us, hl with | [_, _, _], _ => rfl) (fun vs H Q E ⟨bv, tv, b, s, c, fs, ths, e, _⟩ => by rw [e]; rfl) ?_
  rintro f cdv A outer s H vs Q E hr ⟨bv, tv, b, st, c, fs, ths, rfl, hbk, hfl, ⟨a, ws, rfl, ha, hpd⟩, htl, hz, k⟩
  have F := T.b.f
  have B := F.B
  have nd := scThings.nd
  obtain ⟨t1, gt⟩ := T.mt
  refine ⟨_, pss_cons (ps_if (PW.pt (pw_or (pt_not (pt_val (pe_callB call_isi (by rfl) B.isinstance_ (by decide +kernel) (pa_cons (pv 2) (pa_cons (pe_bltn (by rfl) B.tuple_ (by decide +kernel) (show RelV (.ty "tuple") _ from rfl)) pa_nil)))))
      (pw_or1 (pt_not (pt_chain op_le op_le pe_int (pe_callB call_len (by rfl) B.len_ PySem.boot_len (pa_cons (pv 2) pa_nil)) (pe_glob (v := .int 3) (by rfl) gt ⟨_, rfl⟩)))))) (pss_one (ps_ret pe_bl)) pss_nil)
    (pss_cons (ps_for (passes_of rfl) rfl (pi_enumT (by rfl) B.enumerate_ (pa_cons (pv 2) pa_nil)) (pg_tup rfl (pgs_cons (pg_name (i := 3) nd rfl (Or.inl rfl)) (pgs_cons (pg_name (i := 4) nd rfl (Or.inl rfl)) pgs_nil)))
      (pss_cons (ps_if (PW.pt (pw_or (pt_not (pt_val (pe_callB call_isi (by rfl) B.isinstance_ (by decide +kernel) (pa_cons (pv 4) (pa_cons (pe_bltn (by rfl) B.tuple_ (by decide +kernel) (show RelV (.ty "tuple") _ from rfl)) pa_nil)))))
        (pw_or1 (pt_cmpR op_ne (pe_callB call_len (by rfl) B.len_ PySem.boot_len (pa_cons (pv 4) pa_nil)) pe_int (nomark _))))) pss_never pss_nil)
      (pss_cons (ps_if (PW.pt (pw_or (pt_not (pt_val (pe_callB call_isi (by rfl) B.isinstance_ (by decide +kernel) (pa_cons (pe_ix ix_tup (pv 4) pe_int (fun _ _ => rfl)) (pa_cons (pe_bltn (by rfl) B.str_ (by decide +kernel) (show RelV (.ty "str") _ from rfl)) pa_nil)))))
        (pw_or1 (pt_cmpR op_notIn_seq (pe_ix ix_tup (pv 4) pe_int (fun _ _ => rfl)) (pe_glob (by rfl) T.modes (show RelV (.ref (He.ga K "MODES")) _ from rfl)) (by rfl))))) pss_never pss_nil)
      (pss_one (ps_if (pt_not (pt_val (pe_cx (ok_isForm T) hr pass0 (by rfl) (pa_cons (pv 0) (pa_cons (pv 1) (pa_cons (pe_slice sl_tup (pv 2) po_none (po_some (pv 3))) (pa_cons (pe_ix ix_tup (pv 4) pe_int (fun _ _ => rfl)) pa_nil))))))) (pss_one (ps_ret pe_bl)) pss_nil)))))
    (pss_one (ps_ret pe_bl))), ?_⟩
  have hwl : ws.length = ths.length := (Paired.len hpd).symm
  refine ⟨_, rfl, .ref a, _, _, _, true, rfl, .ty "tuple", .base (.tup ha), kit_ty (by decide +kernel), true, rfl, iteF ?_⟩
  refine ⟨_, rfl, .ref a, _, rfl, .inr ⟨_, .inl (.inl ha), rfl⟩, 1, _, rfl, rfl, _, rfl, ?_⟩
  by_cases c1 : 1 ≤ ths.length
  case neg =>
    rw [show decide ((1 : Int) ≤ (ws.length : Int)) = false from by simp; omega]
    refine iteF ⟨false, rfl, ?_⟩
    have e : thAll b fs.length c ths = false := by unfold thAll; rw [decide_eq_false (by omega)]; rfl
    have := k H (Same.refl _)
    rw [e] at this
    exact this
  rw [show decide ((1 : Int) ≤ (ws.length : Int)) = true from by simp; omega]
  refine iteT ⟨_, 3, rfl, rfl, _, rfl, ?_⟩
  by_cases c3 : ths.length ≤ 3
  case neg =>
    rw [show decide ((ws.length : Int) ≤ 3) = false from by simp; omega]
    have e : thAll b fs.length c ths = false := by unfold thAll; rw [decide_eq_false (by omega)]; rfl
    have := k H (Same.refl _)
    rw [e] at this
    exact this
  rw [show decide ((ws.length : Int) ≤ 3) = true from by simp; omega]
  have hall : thAll b fs.length c ths = thOk b fs.length c [] ths := by unfold thAll; rw [decide_eq_true ⟨c1, c3⟩, Bool.true_and]
  refine ⟨_, rfl, a, ws, rfl, .inl (.inl ha), for_enumT (xs := ws) (fun i σ H' => ∃ x1 x2, σ = [some bv, some (.int (c : Int)), some (.ref a), x1, x2] ∧ Same H H' ∧ thOk b fs.length c [] (ths.take i) = true)
    ⟨_, _, rfl, Same.refl _, rfl⟩ (fun i σ H' ⟨_, _, _, s1, _⟩ => .inl (.inl (s1 _ _ ha))) ?_ ?_⟩
  · rintro i y p σ H' hy ⟨x1, x2, rfl, s1, hok⟩ hp
    have hi : i < ths.length := by rw [← hwl]; exact (List.getElem?_eq_some_iff.mp hy).1
    obtain ⟨th, hth⟩ : ∃ th, ths[i]? = some th := ⟨ths[i], List.getElem?_eq_getElem hi⟩
    have s2 : Same H (upd H' p (.tup [.int (i : Nat), y])) := s1.trans (same_upd hp)
    have hmem := List.mem_of_getElem? hth
    obtain ⟨a2, u2, rfl, ha2, hfu⟩ := (Paired.at hpd hth hy).same s2
    refine ⟨p, _, rfl, .inl (.inl upd_same), rfl, _, _, rfl, _, _, rfl, rfl, ?_⟩
    refine ⟨_, rfl, .ref a2, _, _, _, true, rfl, .ty "tuple", .base (.tup ha2), kit_ty (by decide +kernel), true, rfl, iteF ?_⟩
    refine ⟨_, rfl, .ref a2, _, rfl, .inr ⟨_, .inl (.inl ha2), rfl⟩, rfl, _, rfl, iteF ?_⟩
    refine ⟨_, rfl, a2, _, 0, _, rfl, rfl, .inl (.inl ha2), atI_nat (j := 0) rfl, .str th.1.str, _, _, _, true, rfl, .ty "str", .base (.str _), kit_ty (by decide +kernel), true, rfl, iteF ?_⟩
    refine ⟨_, rfl, a2, _, 0, _, rfl, rfl, .inl (.inl ha2), atI_nat (j := 0) rfl, _, _, rfl, .inr (T.modesT _), rfl, by decide +kernel, _, rfl, ?_⟩
    rw [show (if true = true then !inV (.str th.1.str) [.str "kept", .str "again", .str "check"] else inV (.str th.1.str) [.str "kept", .str "again", .str "check"]) = false from by cases th.1 <;> decide +kernel]
    refine iteF ⟨_, rfl, _, rfl, _, rfl, _, rfl, _, rfl, a, ws, rfl, .inl (.inl (s2 _ _ ha)), ?_, fun p2 hp2 => ?_⟩
    · rw [HT.sIx_nat, Nat.min_eq_left (by omega)]
      intro h
      have := h.2
      omega
    rw [cutV_to _ _ (by omega)]
    have s3 := s2.trans (same_upd (o := .tup (ws.take i)) hp2)
    have s3' : Same (upd H' p (.tup [.int (i : Nat), .ref a2])) (upd (upd H' p (.tup [.int (i : Nat), .ref a2])) p2 (.tup (ws.take i))) := same_upd hp2
    refine ⟨_, rfl, a2, _, 1, _, rfl, rfl, .inl (.inl (s3' _ _ ha2)), atI_nat (j := 1) rfl, bv, .ref p2, u2, b, st, c, fs, ths.take i, th.2, rfl, hbk.same s3, hfl, ⟨p2, _, rfl, upd_same, Paired.takeP (L2.Paired.mapP hpd fun _ _ h => h.same s3) i⟩, by rw [List.length_take]; omega, hfu.same s3', hz _ hmem, fun H3 s4 => ⟨_, rfl, ?_⟩⟩
    have s5 := s3.trans s4
    cases hg : goodT b fs.length (leafP c (flags (ths.take i))) th.2 with
    | false =>
      have := k H3 s5
      rw [hall, thOk_at hth, hg, Bool.false_and, Bool.and_false] at this
      exact iteT this
    | true =>
      refine iteF ⟨some (.int (i : Nat)), some (.ref a2), rfl, s5, ?_⟩
      rw [thOk_snoc hth, hok, hg]
      rfl
  · rintro σ H' ⟨x1, x2, rfl, s1, hok⟩
    rw [hwl, List.take_length] at hok
    have := k H' s1
    rw [hall, hok] at this
    exact this
/-! ### is_rising -/
theorem scRis : FnScope ["some", "many", "one", "other"] ["some", "many"] (defScope (top 42)) := ⟨rfl, rfl, rfl, by decide +kernel, rfl, by decide +kernel, by decide +kernel⟩
def nV (ns : List Nat) : List V := ns.map fun (n : Nat) => V.int (n : Int)
def spRis : Sp := fun vs H Q _ => ∃ (a : Addr) (m : Nat) (ns : List Nat), vs = [.ref a, .int (m : Int)] ∧ H a = some (.tup (nV ns)) ∧ ns.length ≤ 1000 ∧ ∀ H', Same H H' → Q (.bl (risOk m ns)) H'
theorem rising_zip : ∀ ns : List Nat, rising ns = (ns.zip ns.tail).all fun p => decide (p.1 < p.2)
  | [] => rfl
  | [_] => rfl
  | a :: b :: r => by
    have ih := rising_zip (b :: r)
    simp only [rising, ih, List.tail_cons, List.zip_cons_cons, List.all_cons]
theorem ok_ris (F : Fm K mg w) (D : DefG K mg "is_rising" (top 42)) (zt : mg "zip" = none) : CalX CX0 P w K mg base 2 "is_rising" spRis := by
  refine cal_of D scRis (fun _ _ _ _ _ _ us hl => match us, hl with | [_, _], _ => rfl) (fun vs H Q E ⟨a, m, ns, e, _⟩ => by rw [e]; rfl) ?_
  rintro f cdv A outer s H vs Q E hr ⟨a, m, ns, rfl, ha, hl, k⟩
  have B := F.B
  have nd := scRis.nd
  have bw := ok_between (P := P) (w := w) (K := K) (base := base) B F.dBetween
  refine ⟨_, pss_cons (ps_if (PW.pt (pw_or (pt_not (pt_val (pe_callB call_isi (by rfl) B.isinstance_ (by decide +kernel) (pa_cons (pv 0) (pa_cons (pe_bltn (by rfl) B.tuple_ (by decide +kernel) (show RelV (.ty "tuple") _ from rfl)) pa_nil)))))
      (pw_or1 (pt_not (pt_val (pe_callB (cr_all rfl) (by rfl) B.all_ (by decide +kernel) (pa_cons
          (pe_lc (own := [("one", 2)]) (by rfl) nd (pi_tup (pv 0)) (blkOk_by (N := ["some", "many", "one", "other"]) (sc := defScope (top 42)) (by decide +kernel))
            (fun _ _ _ _ _ => pg_name (i := 2) nd rfl (Or.inl rfl)) (fun _ _ _ _ _ => pts_nil) (fun _ _ _ _ _ => pe_cx bw hr pass0 (by rfl) (pa_cons (pv 2) (pa_cons pe_int (pa_cons (pe_op op_sub (pv 1) pe_int) pa_nil))))) pa_nil))))))) (pss_one (ps_ret pe_bl)) pss_nil)
    (pss_one (ps_ret (pe_callB (cr_all rfl) (by rfl) B.all_ (by decide +kernel) (pa_cons
          (pe_lc (own := [("one", 2), ("other", 3)]) (by rfl) nd (RZ.pi_zipA (by rfl) B.zip_ (pa_cons (pv 0) (pa_cons (pe_slice sl_tupB (pv 0) (po_some pe_int) po_none) pa_nil))) (blkOk_by (N := ["some", "many", "one", "other"]) (sc := defScope (top 42)) (by decide +kernel))
            (fun _ _ _ _ _ => pg_tupK K (n := 2) rfl rfl (pgs_cons (pg_name (i := 2) nd rfl (Or.inl rfl)) (pgs_cons (pg_name (i := 3) nd rfl (Or.inl rfl)) pgs_nil))) (fun _ _ _ _ _ => pts_nil) (fun _ _ _ _ _ => pe_cmpR op_lt (pv 2) (pv 3) (nomark _))) pa_nil)))), ?_⟩
  refine ⟨_, rfl, .ref a, _, _, _, true, rfl, .ty "tuple", .base (.tup ha), kit_ty (by decide +kernel), true, rfl, iteF ?_⟩
  refine ⟨_, rfl, a, rfl, ⟨_, .inl (.inl ha)⟩, fun D1 hD1 => lc_tupS hD1 (.inl (.inl ha)) ns (by simp [nV]) (by rw [sizeLine_eq]; omega) (fun n => some (.bl (decide (n < m)))) ?_ ?_⟩
  · intro i x n H' R Rz hx hy s1 _ ks
    rw [nV, List.getElem?_map, hy] at hx
    cases hx
    refine ⟨rfl, iteT (B := R H') ⟨_, rfl, _, rfl, _, _, rfl, rfl, _, _, _, rfl, ks _ _ ?_ (Same.refl _)⟩⟩
    have : (decide ((0 : Int) ≤ (n : Int)) && decide ((n : Int) ≤ (m : Int) - 1)) = decide (n < m) := by
      rw [decide_eq_true (Int.natCast_nonneg n), Bool.true_and]
      by_cases h : n < m
      · rw [decide_eq_true h, decide_eq_true (by omega)]
      · rw [decide_eq_false h, decide_eq_false (by omega)]
    show some (V.bl (decide (n < m))) = some (V.bl (decide ((0 : Int) ≤ (n : Int)) && decide ((n : Int) ≤ (m : Int) - 1)))
    rw [this]
  · intro H1 s1 hDq
    rw [List.filterMap_eq_map', show ns.map (fun n => V.bl (decide (n < m))) = (ns.map fun n => decide (n < m)).map V.bl from by rw [List.map_map]; rfl] at hDq
    refine ⟨D1, _, rfl, SqL.of hDq, _, rfl, ?_⟩
    rw [List.all_map, show (id ∘ fun n => decide (n < m)) = fun n => decide (n < m) from rfl]
    cases hk : ns.all fun n => decide (n < m) with
    | false =>
      have := k H1 s1
      unfold risOk at this
      rw [hk, Bool.false_and] at this
      exact iteT this
    | true =>
      have ecut : cutV (nV ns) (some 1) none = nV ns.tail := by
        cases ns with
        | nil => rfl
        | cons n r =>
          rw [show (1 : Int) = ((1 : Nat) : Int) from rfl, cutV_from _ _ (by simp [nV])]
          rfl
      refine iteF ⟨_, rfl, _, rfl, _, rfl, a, _, rfl, .inl (.inl (s1 _ _ ha)), fun p H2 s2 hp => ?_⟩
      rw [ecut] at hp
      refine ⟨a, p, _, _, rfl, .inr ⟨.inl (.inl (s2 _ _ (s1 _ _ ha))), hp, fun D hD => lc_zipTS hD (.inl (.inl (s2 _ _ (s1 _ _ ha)))) hp (ns.zip ns.tail) (by simp [nV, List.length_zip]) (by rw [List.length_zip, sizeLine_eq]; omega) (fun p => some (.bl (decide (p.1 < p.2)))) ?_ ?_⟩⟩
      · intro i x y z T H' R Rz hx hy hz s3 hT _ ks
        obtain ⟨h1, h2⟩ := List.getElem?_zip_eq_some.mp hz
        rw [nV, List.getElem?_map, h1] at hx
        rw [nV, List.getElem?_map, h2] at hy
        cases hx
        cases hy
        refine ⟨T, _, rfl, .inl (.inl hT), rfl, _, _, rfl, _, _, rfl, rfl, rfl, iteT (B := R H') ⟨_, rfl, _, rfl, _, _, rfl, rfl, ks _ _ ?_ (Same.refl _)⟩⟩
        show some (V.bl (decide (z.1 < z.2))) = some (V.bl (decide ((z.1 : Int) < (z.2 : Int))))
        simp
      · intro H' s3 hDq
        rw [List.filterMap_eq_map', show (ns.zip ns.tail).map (fun p => V.bl (decide (p.1 < p.2))) = ((ns.zip ns.tail).map fun p => decide (p.1 < p.2)).map V.bl from by rw [List.map_map]; rfl] at hDq
        refine ⟨D, _, rfl, SqL.of hDq, ?_⟩
        have := k H' ((s1.trans s2).trans s3)
        rw [risOk, hk, Bool.true_and, rising_zip] at this
        rw [List.all_map]
        exact this
/-! ### Plan -/
def TupN (H : Hp) (ns : List Nat) (v : V) : Prop := ∃ a, v = .ref a ∧ H a = some (.tup (nV ns))
def OptAt (H : Hp) (o : Option (List Nat)) (v : V) : Prop := match o with
  | none => v = .non
  | some ns => TupN H ns v ∧ ns.length ≤ 1000
theorem TupN.same {H H' : Hp} {ns : List Nat} {v : V} (h : TupN H ns v) (s : Same H H') : TupN H' ns v := by
  obtain ⟨a, e, ha⟩ := h
  exact ⟨a, e, s _ _ ha⟩
theorem OptAt.same {H H' : Hp} {o : Option (List Nat)} {v : V} (h : OptAt H o v) (s : Same H H') : OptAt H' o v := by
  cases o with
  | none => exact h
  | some ns => exact ⟨h.1.same s, h.2⟩
theorem rgV_nV (n : Nat) : rgV 0 (n : Int) = nV (List.range n) := by
  simp [rgV, nV]
theorem opt_read {H : Hp} {o : Option (List Nat)} {v ev : V} {σ : L2.St} {i j : Nat} {s : Nat} {Q : VK} (hi : σ[i]? = some (some v)) (hj : σ[j]? = some (some ev)) (ho : OptAt H o v) (he : TupN H (List.range s) ev) (q : ∀ u, TupN H (o.getD (List.range s)) u → Q u H) :
    tIf (tTest (tOp rIsN (tVar i) (tC .non))) (tVar j) (tVar i) σ H Q := by
  cases o with
  | none =>
    cases (show v = .non from ho)
    exact ⟨_, hi, rfl, _, rfl, iteT ⟨_, hj, q _ he⟩⟩
  | some ns =>
    obtain ⟨⟨a, rfl, ha⟩, _⟩ := ho
    exact ⟨_, hi, rfl, _, rfl, iteF ⟨_, hi, q _ ⟨a, rfl, ha⟩⟩⟩
theorem opt_readL {H : Hp} {o : Option (List Nat)} {v : V} {σ : L2.St} {i : Nat} {s : Nat} {t : TE} {Q : VK} (hi : σ[i]? = some (some v)) (ho : OptAt H o v) (he : o = none → ∀ Q' : VK, (∀ u H', Same H H' → TupN H' (List.range s) u → Q' u H') → t σ H Q') (q : ∀ u H', Same H H' → TupN H' (o.getD (List.range s)) u → Q u H') :
    tIf (tTest (tOp rIsN (tVar i) (tC .non))) t (tVar i) σ H Q := by
  cases o with
  | none =>
    cases (show v = .non from ho)
    exact ⟨_, hi, rfl, _, rfl, iteT (he rfl _ q)⟩
  | some ns =>
    obtain ⟨⟨a, rfl, ha⟩, _⟩ := ho
    exact ⟨_, hi, rfl, _, rfl, iteF ⟨_, hi, q _ _ (Same.refl _) ⟨a, rfl, ha⟩⟩⟩
theorem opt_len {o : Option (List Nat)} {H : Hp} {v : V} {s : Nat} (h : OptAt H o v) (hs : s ≤ 1000) : (o.getD (List.range s)).length ≤ 1000 := by
  cases o with
  | none => simpa using hs
  | some ns => exact h.2
theorem scPlan : FnScope ["self", "book", "columns", "things", "free", "writers", "askers", "every", "some", "part"] ["self", "book", "columns", "things", "free", "writers", "askers"] (defScope (inClass (top 43) 0)) := ⟨rfl, rfl, rfl, by decide +kernel, rfl, by decide +kernel, by decide +kernel⟩
def spPlan (K : PySem.W.Frag) : Sp := fun vs H Q E => ∃ (p dx : Addr) (bv tv fv wv av : V) (b s c : Nat) (fs : List (List Tr)) (ths : List (Mode × Tr)) (fr wr as : Option (List Nat)), vs = [.ref p, bv, .int (c : Int), tv, fv, wv, av] ∧ H p = some (.ins (He.ga K "Plan") dx []) ∧
  BookAt K H b s fs bv ∧ fs.length < 1000 ∧ s ≤ 1000 ∧ ThingsAt K H ths tv ∧ ths.length < 1000 ∧ SzT ths ∧ OptAt H fr fv ∧ OptAt H wr wv ∧ OptAt H as av ∧
  (planBad b s fs.length c ths fr wr as = none → ∀ H' l, SameBut p H H' → H' p = some (.ins (He.ga K "Plan") dx l) → Q .non H') ∧
  (∀ z, planBad b s fs.length c ths fr wr as = some z → ∀ d H', Same H H' → H d = none → H' d = some (.xd [("part", .str z.str)]) → E (.ref (He.ga K "BadPlan")) (some d) H')
theorem ok_planB (T : Pl P K mg w) {f : Addr} {fd : FuncData} (D : FunD K "__init__" "Plan.__init__" (defArgs (inClass (top 43) 0)) (defBody (inClass (top 43) 0)) (defScope (inClass (top 43) 0)) [] [("free", .non), ("writers", .non), ("askers", .non)] f fd) :
    FnOk P w K mg base (L2.CX P w) 20 f fd ["self", "book", "columns", "things", "free", "writers", "askers"] (spPlan K) := by
  refine D.ok scPlan (fun vs H Q E ⟨p, dx, bv, tv, fv, wv, av, b, s, c, fs, ths, fr, wr, as, e, _⟩ => by rw [e]; rfl) ?_
  rintro cdv A outer s H vs Q E hr ⟨p, dx, bv, tv, fv, wv, av, b, st, c, fs, ths, fr, wr, as, rfl, hp, hbk, hfl, hst, hth, htl, hz, hfr, hwr, has, kn, ks⟩
  have F := T.b.f
  have B := F.B
  have nd := scPlan.nd
  obtain ⟨q, fI, eP⟩ := T.eP
  have bw := ok_between (P := P) (w := w) (K := K) (base := base) B F.dBetween
  have ri := ok_ris (P := P) (base := base) F T.dRis B.zip_
  refine ⟨_, pss_cons (ps_if (pt_not (pt_val (pe_callB call_isi (by rfl) B.isinstance_ (by decide +kernel) (pa_cons (pv 1) (pa_cons (pe_glob (by rfl) T.b.B.g (show RelV (.ref (He.ga K "Book")) _ from rfl)) pa_nil))))) pss_never pss_nil)
    (pss_cons (ps_if (pt_not (pt_val (pe_cx bw hr pass0 (by rfl) (pa_cons (pv 2) (pa_cons pe_int (pa_cons pe_int pa_nil)))))) (pss_one (ps_raiseSup rfl eP (room_rec hr) (takes_of rfl rfl rfl rfl) (pa_cons pe_str pa_nil) (by rfl))) pss_nil)
    (pss_cons (ps_if (pt_not (pt_val (pe_cx (ok_things T) hr pass0 (by rfl) (pa_cons (pv 1) (pa_cons (pv 2) (pa_cons (pv 3) pa_nil)))))) (pss_one (ps_raiseSup rfl eP (room_rec hr) (takes_of rfl rfl rfl rfl) (pa_cons pe_str pa_nil) (by rfl))) pss_nil)
    (pss_cons (ps_set (i := 7) nd rfl (Or.inl rfl) (pe_tupRg rfl (by rfl) B.tuple_ (prg_1 (by rfl) B.range_ (pe_px (ok_p2 T.b) T.b.B.c hr pass0 (pv 1)))))
    (pss_cons (ps_set (i := 4) nd rfl (Or.inl rfl) (pe_ifExp (pt_cmpR op_isN1 (pv 4) pe_non (nomark _)) (pe_tupRg rfl (by rfl) B.tuple_ (prg_1 (by rfl) B.range_ (pe_callB (call_lenOwn (ok_p4 T.b) hr pass0) (by rfl) B.len_ PySem.boot_len (pa_cons (pv 1) pa_nil)))) (pv 4)))
    (pss_cons (ps_par (i := 5) (j := 6) rfl nd rfl rfl (by decide) rfl rfl (pa_cons (pe_ifExp (pt_cmpR op_isN1 (pv 5) pe_non (nomark _)) (pv 7) (pv 5)) (pa_cons (pe_ifExp (pt_cmpR op_isN1 (pv 6) pe_non (nomark _)) (pv 7) (pv 6)) pa_nil)) (by rfl))
    (pss_cons (ps_if (pt_not (pt_val (pe_cx ri hr pass0 (by rfl) (pa_cons (pv 4) (pa_cons (pe_callB (call_lenOwn (ok_p4 T.b) hr pass0) (by rfl) B.len_ PySem.boot_len (pa_cons (pv 1) pa_nil)) pa_nil))))) (pss_one (ps_raiseSup rfl eP (room_rec hr) (takes_of rfl rfl rfl rfl) (pa_cons pe_str pa_nil) (by rfl))) pss_nil)
    (pss_cons (ps_for (passes_of rfl) rfl (pi_tup (pe_tup (pa_cons (pe_tup (pa_cons (pv 5) (pa_cons pe_str pa_nil))) (pa_cons (pe_tup (pa_cons (pv 6) (pa_cons pe_str pa_nil))) pa_nil)))) (pg_tup rfl (pgs_cons (pg_name (i := 8) nd rfl (Or.inl rfl)) (pgs_cons (pg_name (i := 9) nd rfl (Or.inl rfl)) pgs_nil)))
      (pss_one (ps_if (PW.pt (pw_or (pt_not (pt_val (pe_cx ri hr pass0 (by rfl) (pa_cons (pv 8) (pa_cons (pe_px (ok_p2 T.b) T.b.B.c hr pass0 (pv 1)) pa_nil))))) (pw_or1 (pt_cmpR (op_eqE hr.units0) (pv 8) (pe_tup pa_nil) (nomark _))))) (pss_one (ps_raiseSup rfl eP (room_rec hr) (takes_of rfl rfl rfl rfl) (pa_cons (pv 9) pa_nil) (by rfl))) pss_nil)))
    (pss_one (ps_fld (pv 0) (pe_tup (pa_cons (pv 1) (pa_cons (pv 2) (pa_cons (pv 3) (pa_cons (pv 4) (pa_cons (pv 5) (pa_cons (pv 6) pa_nil))))))) rfl))))))))), ?_⟩
  obtain ⟨ab, dxb, qb, ub, rfl, hb1, hb2, hb3⟩ := id hbk
  refine ⟨_, rfl, .ref ab, _, _, _, true, rfl, .own _, T.b.B.ty hb1, T.b.B.it, true, rfl, iteF ?_⟩
  refine ⟨_, rfl, _, _, _, rfl, _, rfl, ?_⟩
  by_cases c1 : 1 ≤ c ∧ c ≤ 2
  case neg =>
    rw [show (decide ((1 : Int) ≤ (c : Int)) && decide ((c : Int) ≤ 2)) = false from by rw [Bool.and_eq_false_iff]; simp only [decide_eq_false_iff_not]; omega]
    refine iteT ⟨_, rfl, fun d hd => ks .columns (by unfold planBad; rw [if_pos c1]) d _ (same_upd hd) hd upd_same⟩
  rw [show (decide ((1 : Int) ≤ (c : Int)) && decide ((c : Int) ≤ 2)) = true from by rw [Bool.and_eq_true]; simp only [decide_eq_true_eq]; omega]
  refine iteF ⟨_, rfl, _, rfl, _, rfl, .ref ab, tv, b, st, c, fs, ths, rfl, hbk, hfl, hth, htl, hz, fun H1 s1 => ⟨_, rfl, ?_⟩⟩
  cases c2 : thAll b fs.length c ths with
  | false =>
    exact iteT ⟨_, rfl, fun d hd => ks .things (by unfold planBad; rw [if_neg (not_not_intro c1), if_pos c2]) d _ (s1.trans (same_upd hd)) (Same.free s1 hd) upd_same⟩
  | true =>
    refine iteF ⟨_, rfl, ab, dxb, _, rfl, s1 _ _ hb1, .ref ab, b, st, fs, rfl, hbk.same s1, st, rfl, RgOk.of_le (by omega) (by omega) (by omega) (by omega), fun pe hpe => ?_⟩
    rw [rgV_nV]
    have s2 := s1.trans (same_upd (o := .tup (nV (List.range st))) hpe)
    have hev : TupN (upd H1 pe (.tup (nV (List.range st)))) (List.range st) (.ref pe) := ⟨pe, rfl, upd_same⟩
    generalize hH2 : upd H1 pe (.tup (nV (List.range st))) = H2 at s2 hev
    refine opt_readL (s := fs.length) rfl (hfr.same s2) (fun _ Q' q' => ?_) (fun fu H3 s3 hfu => ?_)
    · refine ⟨_, rfl, ab, dxb, _, rfl, s2 _ _ hb1, .ref ab, b, st, fs, rfl, hbk.same s2, fs.length, rfl, by omega, _, rfl, RgOk.of_le (by omega) (by omega) (by omega) (by omega), fun pf hpf => ?_⟩
      rw [rgV_nV]
      exact q' _ _ (same_upd hpf) ⟨pf, rfl, upd_same⟩
    have s4 := s2.trans s3
    refine opt_read (s := st) rfl rfl (hwr.same s4) (hev.same s3) (fun wu hwu => opt_read (s := st) rfl rfl (has.same s4) (hev.same s3) (fun au hau => ⟨_, _, rfl, ?_⟩))
    have hfn := opt_len hfr (show fs.length ≤ 1000 by omega)
    have hwn := opt_len hwr hst
    have han := opt_len has hst
    obtain ⟨fa, rfl, hfa⟩ := hfu
    obtain ⟨wa, rfl, hwa⟩ := hwu
    obtain ⟨aa, rfl, haa⟩ := hau
    generalize hfrn : fr.getD (List.range fs.length) = frn at hfa hfn
    generalize hwrn : wr.getD (List.range st) = wrn at hwa hwn
    generalize hasn : as.getD (List.range st) = asn at haa han
    refine ⟨_, rfl, _, rfl, ab, dxb, _, rfl, s4 _ _ hb1, .ref ab, b, st, fs, rfl, hbk.same s4, fs.length, rfl, by omega, fa, fs.length, frn, rfl, hfa, hfn, fun H4 s5 => ⟨_, rfl, ?_⟩⟩
    have s6 := s4.trans s5
    cases c3 : risOk fs.length frn with
    | false =>
      exact iteT ⟨_, rfl, fun d hd => ks .free (by unfold planBad; rw [if_neg (not_not_intro c1), if_neg (by rw [c2]; decide), hfrn, if_pos c3]) d _ (s6.trans (same_upd hd)) (Same.free s6 hd) upd_same⟩
    | true =>
      refine iteF ⟨_, rfl, (by show 2 ≤ sizeLine; decide), fun p1 hp1 => ⟨_, rfl, (by show 2 ≤ sizeLine; decide), fun p2 hp2 => ⟨(by show 2 ≤ sizeLine; decide), fun p3 hp3 => ?_⟩⟩⟩
      have t1 : Same H4 (upd H4 p1 (.tup [.ref wa, .str "WRITERS"])) := same_upd hp1
      have t2 : Same (upd H4 p1 (.tup [.ref wa, .str "WRITERS"])) (upd (upd H4 p1 (.tup [.ref wa, .str "WRITERS"])) p2 (.tup [.ref aa, .str "ASKERS"])) := same_upd hp2
      have t3 : Same (upd (upd H4 p1 (.tup [.ref wa, .str "WRITERS"])) p2 (.tup [.ref aa, .str "ASKERS"])) (upd (upd (upd H4 p1 (.tup [.ref wa, .str "WRITERS"])) p2 (.tup [.ref aa, .str "ASKERS"])) p3 (.tup [.ref p1, .ref p2])) := same_upd hp3
      have g1 := t3 _ _ (t2 _ _ (upd_same (H := H4) (a := p1) (o := .tup [.ref wa, .str "WRITERS"])))
      have g2 := t3 _ _ (upd_same (H := upd H4 p1 (.tup [.ref wa, .str "WRITERS"])) (a := p2) (o := .tup [.ref aa, .str "ASKERS"]))
      have g3 := upd_same (H := upd (upd H4 p1 (.tup [.ref wa, .str "WRITERS"])) p2 (.tup [.ref aa, .str "ASKERS"])) (a := p3) (o := .tup [.ref p1, .ref p2])
      have s7 := s6.trans (t1.trans (t2.trans t3))
      have s75 := s5.trans (t1.trans (t2.trans t3))
      generalize upd (upd (upd H4 p1 (.tup [.ref wa, .str "WRITERS"])) p2 (.tup [.ref aa, .str "ASKERS"])) p3 (.tup [.ref p1, .ref p2]) = H7 at g1 g2 g3 s7 s75
      have hwa := s75 _ _ hwa
      have haa := s75 _ _ haa
      refine ⟨p3, rfl, ⟨_, .inl (.inl g3)⟩, for_tup (xs := [.ref p1, .ref p2]) (fun i σ H' => ∃ x8 x9, σ = [some (.ref p), some (.ref ab), some (.int (c : Int)), some tv, some (.ref fa), some (.ref wa), some (.ref aa), some (.ref pe), x8, x9] ∧ Same H7 H' ∧
          (1 ≤ i → (risOk st wrn && !wrn.isEmpty) = true) ∧ (2 ≤ i → (risOk st asn && !asn.isEmpty) = true)) ⟨_, _, rfl, Same.refl _, by omega, by omega⟩ (fun i σ H' _ ⟨_, _, _, s8, _⟩ => .inl (.inl (s8 _ _ g3))) ?_ ?_⟩
      · rintro i x σ H' hx ⟨x8, x9, rfl, s8, o1, o2⟩
        obtain ⟨pi, ua, ns, z, rfl, hpi, hua, hun, hbz, hgz⟩ : ∃ (pi ua : Addr) (ns : List Nat) (z : PlanPart), x = .ref pi ∧ H' pi = some (.tup [.ref ua, .str z.str]) ∧ H' ua = some (.tup (nV ns)) ∧ ns.length ≤ 1000 ∧ ((risOk st ns && !ns.isEmpty) = false → planBad b st fs.length c ths fr wr as = some z) ∧
            ((risOk st ns && !ns.isEmpty) = true → (1 ≤ i + 1 → (risOk st wrn && !wrn.isEmpty) = true) ∧ (2 ≤ i + 1 → (risOk st asn && !asn.isEmpty) = true)) := by
          match i, hx, o1 with
          | 0, hx, _ =>
            cases hx
            exact ⟨p1, wa, wrn, .writers, rfl, s8 _ _ g1, s8 _ _ hwa, hwn, fun e => by unfold planBad; rw [if_neg (not_not_intro c1), if_neg (by rw [c2]; decide), hfrn, if_neg (by rw [c3]; decide), hwrn, if_pos e], fun e => ⟨fun _ => e, by omega⟩⟩
          | 1, hx, o1 =>
            cases hx
            have e1 := o1 (Nat.le_refl 1)
            exact ⟨p2, aa, asn, .askers, rfl, s8 _ _ g2, s8 _ _ haa, han, fun e => by unfold planBad; rw [if_neg (not_not_intro c1), if_neg (by rw [c2]; decide), hfrn, if_neg (by rw [c3]; decide), hwrn, if_neg (by rw [e1]; decide), hasn, if_pos e], fun e => ⟨fun _ => e1, fun _ => e⟩⟩
          | i + 2, hx, _ => simp at hx
        refine ⟨pi, _, rfl, .inl (.inl hpi), rfl, _, _, rfl, _, _, rfl, rfl, ?_⟩
        refine ⟨_, rfl, _, rfl, ab, dxb, _, rfl, s8 _ _ (s7 _ _ hb1), .ref ab, b, st, fs, rfl, hbk.same (s7.trans s8), ua, st, ns, rfl, hua, hun, fun H8 s9 => ⟨_, rfl, ?_⟩⟩
        have s10 := (s7.trans s8).trans s9
        have bad : ∀ H'', Same H8 H'' → (risOk st ns && !ns.isEmpty) = false → ∀ d, H'' d = none → E (.ref (He.ga K "BadPlan")) (some d) (upd H'' d (.xd [("part", .str z.str)])) := fun H'' s11 e d hd =>
          ks z (hbz e) d _ ((s10.trans s11).trans (same_upd hd)) (Same.free (s10.trans s11) hd) upd_same
        cases c4 : risOk st ns with
        | false => exact iteT ⟨_, rfl, _, rfl, fun d hd => bad _ (Same.refl _) (by rw [c4]; rfl) d hd⟩
        | true =>
          refine iteF ⟨_, rfl, Nat.zero_le _, fun p4 hp4 => ?_⟩
          have s11 : Same H8 (upd H8 p4 (.tup [])) := same_upd hp4
          refine ⟨ua, p4, _, rfl, rfl, .inl (.inl (s11 _ _ (s9 _ _ hua))), .inl (.inl upd_same), _, rfl, ?_⟩
          rw [show (nV ns).isEmpty = ns.isEmpty from by cases ns <;> rfl]
          cases c5 : ns.isEmpty with
          | true => exact iteT ⟨_, rfl, _, rfl, fun d hd => bad _ s11 (by rw [c4, c5]; rfl) d hd⟩
          | false =>
            have ⟨w1, w2⟩ := hgz (by rw [c4, c5]; rfl)
            exact iteF ⟨some (.ref ua), some (.str z.str), rfl, (s8.trans s9).trans s11, w1, w2⟩
      · rintro σ H' ⟨x8, x9, rfl, s8, o1, o2⟩
        have s9 := s7.trans s8
        have pn : planBad b st fs.length c ths fr wr as = none := by
          unfold planBad
          rw [if_neg (not_not_intro c1), if_neg (by rw [c2]; decide), hfrn, if_neg (by rw [c3]; decide), hwrn, if_neg (by rw [o1 (by show 1 ≤ 2; decide)]; decide), hasn, if_neg (by rw [o2 (by show 2 ≤ 2; decide)]; decide)]
        refine ⟨_, rfl, _, rfl, _, rfl, _, rfl, _, rfl, _, rfl, (by show 6 ≤ sizeLine; decide), fun q hq => ?_⟩
        have hpq : p ≠ q := ne_of_none (s9 _ _ hp) hq
        refine ⟨_, rfl, p, _, dx, [], rfl, (by rw [upd_ne hpq]; exact s9 _ _ hp), T.C.c, T.nP, (by show 0 < 1000; decide), ?_⟩
        exact kn pn _ _ (fun c o hc e => by
          rw [upd_ne hc]
          exact same_new s9 (Same.free s9 hq) c o e) upd_same
/-! ### Plan == text -/
theorem scPE : FnScope ["self", "other"] ["self", "other"] (defScope (inClass (top 43) 10)) := ⟨rfl, rfl, rfl, by decide +kernel, rfl, by decide +kernel, by decide +kernel⟩
def spPE : Sp := fun vs H Q _ => ∃ (v : V) (z : Str), vs = [v, .str z] ∧ Q (.bl false) H
theorem ok_pe (T : Pl P K mg w) : MetX CX0 P w K mg base 1 (He.ga K "Plan") "__eq__" spPE := by
  refine met_of T.mEq scPE (fun _ _ _ _ _ _ us hl => match us, hl with | [_, _], _ => rfl) (fun vs H Q E ⟨v, z, e, _⟩ => by rw [e]; rfl) ?_
  rintro f cdv A outer s H vs Q E hr ⟨v, z, rfl, k⟩
  have B := T.b.f.B
  exact ⟨_, pss_one (ps_ret (pe_and (pe_callB call_isi (by rfl) B.isinstance_ (by decide +kernel) (pa_cons (pv 1) (pa_cons (pe_glob (by rfl) T.C.g (show RelV (.ref (He.ga K "Plan")) _ from rfl)) pa_nil))) (pe_one pe_never))),
    _, rfl, .str z, _, _, _, false, rfl, .own _, .base (.str z), T.ks, false, rfl, k⟩
end
end Km
set_option Elab.async false
set_option linter.all false
set_option maxRecDepth 100000
set_option maxHeartbeats 4000000
/-! the reader of a tree -/
namespace Km
open PySem PySem.Spec PyProof.Rows L2
/-! ### plain -/
inductive Lead where | col | kept | call
  deriving DecidableEq
def Lead.word : Lead → Str
  | .col => "column" | .kept => "kept" | .call => "call"
def Lead.most : Lead → Nat
  | .call => 2
  | _ => 1
def Lead.sign : Lead → Nat
  | .col => 99 | .kept => 107 | .call => 102
def ledRes (d : Nat) : Lead → List Nat → Option (Tr × List Nat)
  | .col, r => (digO 1 r).map fun p => (.col p.1, p.2)
  | .kept, r => (digO 1 r).map fun p => (.kept p.1, p.2)
  | .call, r => (digO 2 r).bind fun p => (expO 40 p.2).bind fun r1 => (prD d r1).bind fun q => (expO 41 q.2).map fun r2 => (.call p.1 q.1, r2)
theorem led_col (d : Nat) (r : List Nat) : ledRes d .col r = (digO 1 r).map fun p => (.col p.1, p.2) := rfl
theorem led_kept (d : Nat) (r : List Nat) : ledRes d .kept r = (digO 1 r).map fun p => (.kept p.1, p.2) := rfl
theorem led_call (d : Nat) (r : List Nat) : ledRes d .call r = (digO 2 r).bind fun p => (expO 40 p.2).bind fun r1 => (prD d r1).bind fun q => (expO 41 q.2).map fun r2 => (.call p.1 q.1, r2) := rfl
def brRes (d : Nat) (r : List Nat) : Option (Tr × List Nat) := (prD d r).bind fun q => match q.2 with
  | [] => none
  | s :: r1 => if s = 63 then (prD d r1).bind fun q2 => (expO 58 q2.2).bind fun r2 => (prD d r2).bind fun q3 => (expO 41 q3.2).map fun r3 => (.whn q.1 q2.1 q3.1, r3)
    else (opOf s).bind fun o => (prD d r1).bind fun q2 => (expO 41 q2.2).map fun r2 => (.bin o q.1 q2.1, r2)
theorem prD_cons (d c : Nat) (r : List Nat) : prD (d + 1) (c :: r) = if 48 ≤ c ∧ c ≤ 50 then some (.num (c - 48), r) else if c = 103 then some (.given, r) else if c = 115 then some (.setting, r)
    else if c = 99 then ledRes d .col r else if c = 107 then ledRes d .kept r else if c = 102 then ledRes d .call r else if c = 40 then brRes d r else none := rfl
theorem eqS1 (c d : Nat) : decide (V.str (SX.S [c]) = V.str (SX.S [d])) = decide (c = d) := by
  by_cases h : c = d
  · subst h
    rw [decide_eq_true rfl, decide_eq_true rfl]
  · rw [decide_eq_false h, decide_eq_false]
    intro e
    exact h (List.cons.inj (SX.S_inj (V.str.inj e))).1
theorem eqS0 (d : Nat) : decide (V.str (SX.S []) = V.str (SX.S [d])) = false := by
  rw [decide_eq_false]
  intro e
  exact absurd (SX.S_inj (V.str.inj e)) (by simp)
theorem in012 (c : Nat) : inV (.str (SX.S [c])) [.str "0", .str "1", .str "2"] = decide (48 ≤ c ∧ c ≤ 50) := by
  show (((("0" : Str) == SX.S [c]) || ((("1" : Str) == SX.S [c]) || ((("2" : Str) == SX.S [c]) || false)))) = _
  rw [show ("0" : Str) = SX.S [48] from by decide +kernel, show ("1" : Str) = SX.S [49] from by decide +kernel, show ("2" : Str) = SX.S [50] from by decide +kernel, SX.S_beq_eq, SX.S_beq_eq, SX.S_beq_eq]
  simp only [List.cons.injEq, and_true, Bool.or_false]
  rw [Bool.eq_iff_iff]
  simp only [Bool.or_eq_true, decide_eq_true_eq]
  omega
theorem in012n : inV (.str (SX.S [])) [.str "0", .str "1", .str "2"] = false := by decide +kernel
theorem int1 {c : Nat} (h : 48 ≤ c ∧ c ≤ 57) : PySem.intText? (SX.S [c]) = some ((c - 48 : Nat) : Int) := by
  obtain ⟨h1, h2⟩ := h
  obtain ⟨k, rfl⟩ : ∃ k, c = 48 + k := ⟨c - 48, by omega⟩
  have : k = 0 ∨ k = 1 ∨ k = 2 ∨ k = 3 ∨ k = 4 ∨ k = 5 ∨ k = 6 ∨ k = 7 ∨ k = 8 ∨ k = 9 := by omega
  rcases this with rfl | rfl | rfl | rfl | rfl | rfl | rfl | rfl | rfl | rfl <;> decide +kernel
theorem cut1 (l : List Nat) (i : Nat) : cutS (SX.S l) (some (i : Int)) (some ((i : Int) + 1)) = SX.S ((l.drop i).take 1) := by
  unfold cutS
  rw [show ((i : Int) + 1) = ((i + 1 : Nat) : Int) by omega, HT.sIx_nat, HT.sIx_nat]
  show (⟨((l.drop (min i (SX.S l).length)).take (min (i + 1) (SX.S l).length - min i (SX.S l).length)).toArray⟩ : Str) = _
  rw [SX.S_len]
  congr 2
  by_cases h : i < l.length
  · rw [Nat.min_eq_left (Nat.le_of_lt h), Nat.min_eq_left (by omega)]
    congr 1
    omega
  · rw [Nat.min_eq_right (a := i + 1) (by omega), Nat.min_eq_right (a := i) (by omega), List.drop_length, List.drop_of_length_le (by omega)]
    simp
theorem SameBut.refl {p : Addr} {H : Hp} : SameBut p H H := fun _ _ _ e => e
theorem SameBut.trans {p : Addr} {H H1 H2 : Hp} (a : SameBut p H H1) (b : SameBut p H1 H2) : SameBut p H H2 := fun c o h e => b c o h (a c o h e)
theorem Same.but {p : Addr} {H H1 : Hp} (a : Same H H1) : SameBut p H H1 := fun c o _ e => a c o e
theorem but_upd {p : Addr} {H H1 : Hp} {o : HO} (a : SameBut p H H1) : SameBut p H (upd H1 p o) := fun c u h e => by
  rw [upd_ne h]
  exact a c u h e
structure Rd (P : Program) (K : PySem.W.Frag) (mg : Str → Option Value) (w : World) : Prop where
  f : Fm K mg w
  C : ClsG K mg "Reader"
  nT : NoAttr K (He.ga K "Reader") "text"
  nS : NoAttr K (He.ga K "Reader") "spot"
  iR : IniG K mg "Reader" "Reader.__init__" (He.ga K "Reader") (inClass (top 49) 0)
  mPeek : MetG K (He.ga K "Reader") "peek" "Reader.peek" (inClass (top 49) 1)
  mStep : MetG K (He.ga K "Reader") "step" "Reader.step" (inClass (top 49) 2)
  mExpect : MetG K (He.ga K "Reader") "expect" "Reader.expect" (inClass (top 49) 3)
  mDigit : MetG K (He.ga K "Reader") "digit" "Reader.digit" (inClass (top 49) 4)
  mWhole : MetG K (He.ga K "Reader") "whole" "Reader.whole" (inClass (top 49) 5)
  mLed : MetG K (He.ga K "Reader") "led" "Reader.led" (inClass (top 49) 6)
  mBracket : MetG K (He.ga K "Reader") "bracket" "Reader.bracket" (inClass (top 49) 7)
  leaves : mg "LEAVES" = some (.ref (He.ga K "LEAVES"))
  leavesE : EntK K (He.ga K "LEAVES") [(.str "given", .str (SX.S [103])), (.str "setting", .str (SX.S [115]))]
  leads : mg "LEADS" = some (.ref (He.ga K "LEADS"))
  leadsE : EntK K (He.ga K "LEADS") [(.str "column", .str (SX.S [99])), (.str "kept", .str (SX.S [107])), (.str "call", .str (SX.S [102]))]
  mids : mg "MIDDLES" = some (.ref (He.ga K "MIDDLES"))
  midsE : EntK K (He.ga K "MIDDLES") [(.str "sum", .str (SX.S [43])), (.str "less", .str (SX.S [45])), (.str "times", .str (SX.S [42])), (.str "same", .str (SX.S [61]))]
  eT : ∃ q fI, SupTxt P K mg "BadText" "row" q (He.ga K "BadText") fI
section
variable {P : Program} {w : World} {K : PySem.W.Frag} {mg : Str → Option Value} {base : Heap}
def rf (l : List Nat) (i : Nat) : List (Str × V) := [("text", .str (SX.S l)), ("spot", .int (i : Int))]
def RdAt (K : PySem.W.Frag) (H : Hp) (p : Addr) (l : List Nat) (i : Nat) : Prop := ∃ dx, H p = some (.ins (He.ga K "Reader") dx (rf l i))
theorem rf_put (l : List Nat) (i : Nat) : putF "spot" (.int ((i : Int) + 1)) (rf l i) = rf l (i + 1) := by
  show (if ("text" : Str) = "spot" then (("text" : Str), V.int ((i : Int) + 1)) :: _ else (("text" : Str), V.str (SX.S l)) :: (if ("spot" : Str) = "spot" then [(("spot" : Str), V.int ((i : Int) + 1))] else _)) = _
  rw [if_neg (by decide +kernel), if_pos rfl]
  rfl
theorem rf_text (l : List Nat) (i : Nat) : (rf l i).lookup ("text" : Str) = some (.str (SX.S l)) := rfl
theorem rf_spot (l : List Nat) (i : Nat) : (rf l i).lookup ("spot" : Str) = some (.int (i : Int)) := rfl
/-! ### Reader -/
theorem scR0 : FnScope ["self", "text"] ["self", "text"] (defScope (inClass (top 49) 0)) := ⟨rfl, rfl, rfl, by decide +kernel, rfl, by decide +kernel, by decide +kernel⟩
def spR0 (K : PySem.W.Frag) : Sp := fun vs H Q _ => ∃ (p dx : Addr) (l : List Nat), vs = [.ref p, .str (SX.S l)] ∧ H p = some (.ins (He.ga K "Reader") dx []) ∧ ∀ H', SameBut p H H' → RdAt K H' p l 0 → Q .non H'
theorem ok_r0 (T : Rd P K mg w) : MakX CX0 P w K mg base 1 "Reader" (He.ga K "Reader") (spR0 K) := by
  refine mak_of T.iR scR0 (fun _ _ _ _ _ _ us hl => match us, hl with | [_, _], _ => rfl) (fun vs H Q E ⟨p, dx, l, e, _⟩ => by rw [e]; rfl) ?_
  rintro f cdv A outer s H vs Q E hr ⟨p, dx, l, rfl, hp, k⟩
  refine ⟨_, pss_cons (ps_fld (pv 0) (pv 1) rfl) (pss_one (ps_fld (pv 0) pe_int rfl)), ?_⟩
  refine ⟨_, rfl, _, rfl, p, _, dx, [], rfl, hp, T.C.c, T.nT, (by show 0 < 1000; decide), _, rfl, p, _, dx, _, rfl, upd_same, T.C.c, T.nS, (by show 1 < 1000; decide), ?_⟩
  exact k _ (but_upd (but_upd SameBut.refl)) ⟨dx, upd_same⟩
theorem scR1 : FnScope ["self"] ["self"] (defScope (inClass (top 49) 1)) := ⟨rfl, rfl, rfl, by decide +kernel, rfl, by decide +kernel, by decide +kernel⟩
def spR1 (K : PySem.W.Frag) : Sp := fun vs H Q _ => ∃ (p : Addr) (l : List Nat) (i : Nat), vs = [.ref p] ∧ RdAt K H p l i ∧ l.length ≤ 100000 ∧ Q (.str (SX.S ((l.drop i).take 1))) H
theorem ok_r1 (T : Rd P K mg w) : MetX CX0 P w K mg base 1 (He.ga K "Reader") "peek" (spR1 K) := by
  refine met_of T.mPeek scR1 (fun _ _ _ _ _ _ us hl => match us, hl with | [_], _ => rfl) (fun vs H Q E ⟨p, l, i, e, _⟩ => by rw [e]; rfl) ?_
  rintro f cdv A outer s H vs Q E hr ⟨p, l, i, rfl, ⟨dx, hp⟩, hl, k⟩
  refine ⟨_, pss_one (ps_ret (pe_slice sl_str (pe_fld (pv 0) rfl) (po_some (pe_fld (pv 0) rfl)) (po_some (pe_op op_add (pe_fld (pv 0) rfl) pe_int)))), ?_⟩
  refine ⟨_, rfl, p, _, dx, _, _, rfl, hp, T.C.c, T.nT, rf_text _ _, _, rfl, p, _, dx, _, _, rfl, hp, T.C.c, T.nS, rf_spot _ _, _, rfl, _, rfl, p, _, dx, _, _, rfl, hp, T.C.c, T.nS, rf_spot _ _, _, _, rfl, rfl, _, rfl, _, rfl, by rw [SX.S_len, sizeLine_eq]; omega, ?_⟩
  rw [cut1]
  exact k
theorem scR2 : FnScope ["self", "sign"] ["self"] (defScope (inClass (top 49) 2)) := ⟨rfl, rfl, rfl, by decide +kernel, rfl, by decide +kernel, by decide +kernel⟩
def spR2 (K : PySem.W.Frag) : Sp := fun vs H Q _ => ∃ (p : Addr) (l : List Nat) (i : Nat), vs = [.ref p] ∧ RdAt K H p l i ∧ l.length ≤ 100000 ∧ ∀ H', SameBut p H H' → RdAt K H' p l (i + 1) → Q (.str (SX.S ((l.drop i).take 1))) H'
theorem ok_r2 (T : Rd P K mg w) : MetX CX0 P w K mg base 2 (He.ga K "Reader") "step" (spR2 K) := by
  refine met_of T.mStep scR2 (fun _ _ _ _ _ _ us hl => match us, hl with | [_], _ => rfl) (fun vs H Q E ⟨p, l, i, e, _⟩ => by rw [e]; rfl) ?_
  rintro f cdv A outer s H vs Q E hr ⟨p, l, i, rfl, ⟨dx, hp⟩, hl, k⟩
  refine ⟨_, pss_cons (ps_set (i := 1) scR2.nd rfl (Or.inl rfl) (pe_mx0 (ok_r1 T) T.C.c hr pass0 (pv 0))) (pss_cons (ps_fldaug (pv 0) pe_int in_add) (pss_one (ps_ret (pv 1)))), ?_⟩
  refine ⟨_, rfl, p, dx, _, rfl, hp, by rfl, p, l, i, rfl, ⟨dx, hp⟩, hl, _, rfl, p, _, dx, _, _, rfl, hp, T.C.c, T.nS, rf_spot _ _, _, _, rfl, rfl, dx, _, hp, (by show 2 < 1000; decide), _, rfl, ?_⟩
  exact k _ (but_upd SameBut.refl) ⟨dx, by rw [upd_same, ← rf_put]⟩
theorem free_but {p d : Addr} {H H1 : Hp} {o : HO} (s : SameBut p H H1) (hp : H1 p = some o) (hd : H1 d = none) : H d = none := by
  cases e : H d with
  | none => rfl
  | some u =>
    by_cases h : d = p
    · rw [h, hp] at hd; cases hd
    · rw [s d u h e] at hd; cases hd
/-- how a reader's method ends: it has read x, and r' is left; or it raises -/
def RdOut {α : Type} (K : PySem.W.Frag) (p : Addr) (l : List Nat) (H : Hp) (o : Option (α × List Nat)) (okv : α → V → Hp → Prop) (Q : VK) (E : XK) : Prop :=
  (∀ x r', o = some (x, r') → ∀ v H' i', SameBut p H H' → RdAt K H' p l i' → i' ≤ l.length → l.drop i' = r' → okv x v H' → Q v H') ∧
  (o = none → ∀ d H', SameBut p H H' → H d = none → H' d = some (.xd [("row", .non)]) → E (.ref (He.ga K "BadText")) (some d) H')
theorem RdOut.pre {α : Type} {p : Addr} {l : List Nat} {H H1 : Hp} {o : Option (α × List Nat)} {okv : α → V → Hp → Prop} {Q : VK} {E : XK} {u : HO} (h : RdOut K p l H o okv Q E) (s : SameBut p H H1) (hp : H1 p = some u) : RdOut K p l H1 o okv Q E :=
  ⟨fun x r' e v H' i' s' => h.1 x r' e v H' i' (s.trans s'), fun e d H' s' hd => h.2 e d H' (s.trans s') (free_but s hp hd)⟩
/-- raise BadText(None), in a reader's method -/
theorem rd_raise {α : Type} {p : Addr} {l : List Nat} {H H1 : Hp} {i : Nat} {okv : α → V → Hp → Prop} {Q : VK} {E : XK} (h : RdOut K p l H none okv Q E) (s : SameBut p H H1) (hp : RdAt K H1 p l i) : ∀ d, H1 d = none → E (.ref (He.ga K "BadText")) (some d) (upd H1 d (.xd [("row", .non)])) := fun d hd => by
  obtain ⟨dx, hp⟩ := hp
  refine h.2 rfl d _ (fun c u hc e => ?_) (free_but s hp hd) upd_same
  rw [upd_ne (ne_of_none (s c u hc e) hd)]
  exact s c u hc e
theorem drop_next {l r : List Nat} {i c : Nat} (h : l.drop i = c :: r) : i + 1 ≤ l.length ∧ l.drop (i + 1) = r := by
  have h1 : i < l.length := by
    rcases Nat.lt_or_ge i l.length with h' | h'
    · exact h'
    · rw [List.drop_of_length_le h'] at h; cases h
  rw [List.drop_eq_getElem_cons h1] at h
  exact ⟨h1, (List.cons.inj h).2⟩
/-! ### expect -/
theorem scR3 : FnScope ["self", "sign"] ["self", "sign"] (defScope (inClass (top 49) 3)) := ⟨rfl, rfl, rfl, by decide +kernel, rfl, by decide +kernel, by decide +kernel⟩
def spR3 (K : PySem.W.Frag) : Sp := fun vs H Q E => ∃ (p : Addr) (c : Nat) (l : List Nat) (i : Nat), vs = [.ref p, .str (SX.S [c])] ∧ RdAt K H p l i ∧ l.length ≤ 100000 ∧ RdOut K p l H ((expO c (l.drop i)).map fun r => ((), r)) (fun _ v _ => v = .non) Q E
theorem ok_r3 (T : Rd P K mg w) : MetX (L2N.CX P w) P w K mg base 3 (He.ga K "Reader") "expect" (spR3 K) := by
  refine met_of T.mExpect scR3 (fun _ _ _ _ _ _ us hl => match us, hl with | [_, _], _ => rfl) (fun vs H Q E ⟨p, c, l, i, e, _⟩ => by rw [e]; rfl) ?_
  rintro f cdv A outer s H vs Q E hr ⟨p, c, l, i, rfl, ⟨dx, hp⟩, hl, k⟩
  obtain ⟨q, fI, eT⟩ := T.eT
  refine ⟨_, pss_one (ps_if (pt_cmpR op_ne (pe_mx0 (ok_r2 T) T.C.c hr pass0 (pv 0)) (pv 1) (nomark _)) (pss_one (ps_raiseSupN rfl eT (room_rec hr) (L2N.takes_of rfl rfl rfl rfl) (pa_cons pe_non pa_nil) (by rfl))) pss_nil), ?_⟩
  refine ⟨_, rfl, p, dx, _, rfl, hp, by rfl, p, l, i, rfl, ⟨dx, hp⟩, hl, fun H1 s1 hp1 => ⟨_, rfl, rfl, _, rfl, ?_⟩⟩
  cases hr' : l.drop i with
  | nil =>
    rw [hr'] at k
    rw [show (!decide (V.str (SX.S (([] : List Nat).take 1)) = V.str (SX.S [c]))) = true from by rw [show (([] : List Nat).take 1) = [] from rfl, eqS0]; rfl]
    exact iteT ⟨_, rfl, rd_raise (α := Unit) k s1 hp1⟩
  | cons x r =>
    obtain ⟨n1, n2⟩ := drop_next hr'
    rw [hr'] at k
    rw [show (!decide (V.str (SX.S ((x :: r).take 1)) = V.str (SX.S [c]))) = !decide (x = c) from by rw [show (x :: r).take 1 = [x] from rfl, eqS1]]
    by_cases hx : x = c
    · rw [decide_eq_true hx]
      refine iteF (k.1 () r (by simp [expO, hx]) _ H1 (i + 1) s1 hp1 n1 n2 rfl)
    · rw [decide_eq_false hx]
      have k : RdOut K p l H none (fun (_ : Unit) v _ => v = V.non) Q E := by
        have e : (expO c (x :: r)).map (fun r => ((), r)) = none := by simp [expO, hx]
        rw [e] at k
        exact k
      exact iteT ⟨_, rfl, rd_raise k s1 hp1⟩
/-! ### digit -/
def Lead.tr : Lead → Tr
  | .col => .col 0 | .kept => .kept 0 | .call => .call 0 .given
theorem scR4 : FnScope ["self", "word", "sign"] ["self", "word"] (defScope (inClass (top 49) 4)) := ⟨rfl, rfl, rfl, by decide +kernel, rfl, by decide +kernel, by decide +kernel⟩
def spR4 (K : PySem.W.Frag) : Sp := fun vs H Q E => ∃ (p : Addr) (z : Lead) (l : List Nat) (i : Nat), vs = [.ref p, .str z.word] ∧ RdAt K H p l i ∧ l.length ≤ 100000 ∧ RdOut K p l H (digO z.most (l.drop i)) (fun n v _ => v = .int ((n : Nat) : Int)) Q E
theorem ok_r4 (T : Rd P K mg w) : MetX (L2N.CX P w) P w K mg base 3 (He.ga K "Reader") "digit" (spR4 K) := by
  refine met_of T.mDigit scR4 (fun _ _ _ _ _ _ us hl => match us, hl with | [_, _], _ => rfl) (fun vs H Q E ⟨p, z, l, i, e, _⟩ => by rw [e]; rfl) ?_
  rintro f cdv A outer s H vs Q E hr ⟨p, z, l, i, rfl, ⟨dx, hp⟩, hl, k⟩
  obtain ⟨q, fI, eT⟩ := T.eT
  have B := T.f.B
  refine ⟨_, pss_cons (ps_set (i := 2) scR4.nd rfl (Or.inl rfl) (pe_mx0 (ok_r2 T) T.C.c hr pass0 (pv 0)))
    (pss_cons (ps_if (PW.pt (pw_or (pt_cmpR op_notIn_seq (pv 2) (pe_tup (pa_cons pe_str (pa_cons pe_str (pa_cons pe_str pa_nil)))) (by rfl))
      (pw_or1 (pt_cmpR op_gt (pe_callTy call_int_str (by rfl) B.int_ (by decide +kernel) (pa_cons (pv 2) pa_nil)) (pe_ix ix_kdict (pe_glob (by rfl) T.f.most (show RelV (.ref (He.ga K "MOST")) _ from rfl)) (pe_ix ix_str (pe_ix ix_kdict (pe_glob (by rfl) T.f.signs (show RelV (.ref (He.ga K "SIGNS")) _ from rfl)) (pv 1) (fun _ _ => rfl)) pe_int (fun _ _ => rfl)) (fun _ _ => rfl)) (nomark _)))))
      (pss_one (ps_raiseSupN rfl eT (room_rec hr) (L2N.takes_of rfl rfl rfl rfl) (pa_cons pe_non pa_nil) (by rfl))) pss_nil)
    (pss_one (ps_ret (pe_callTy call_int_str (by rfl) B.int_ (by decide +kernel) (pa_cons (pv 2) pa_nil))))), ?_⟩
  refine ⟨_, rfl, p, dx, _, rfl, hp, by rfl, p, l, i, rfl, ⟨dx, hp⟩, hl, fun H1 s1 hp1 => ⟨_, rfl, (by show 3 ≤ sizeLine; decide), fun t ht => ?_⟩⟩
  have s2 : SameBut p H (upd H1 t (.tup [.str "0", .str "1", .str "2"])) := s1.trans (Same.but (same_upd ht))
  have hp2 : RdAt K (upd H1 t (.tup [.str "0", .str "1", .str "2"])) p l (i + 1) := by
    obtain ⟨dx', h⟩ := hp1
    exact ⟨dx', same_upd ht _ _ h⟩
  refine ⟨t, _, rfl, .inr (.inl (.inl upd_same)), rfl, by decide +kernel, _, rfl, ?_⟩
  cases hr' : l.drop i with
  | nil =>
    rw [hr'] at k
    rw [if_pos rfl, show (([] : List Nat).take 1) = [] from rfl, in012n]
    exact iteT ⟨_, rfl, rd_raise (α := Nat) k s2 hp2⟩
  | cons x r =>
    obtain ⟨n1, n2⟩ := drop_next hr'
    rw [hr'] at k
    rw [if_pos rfl, show (x :: r).take 1 = [x] from rfl, in012]
    by_cases hx : 48 ≤ x ∧ x ≤ 50
    case neg =>
      rw [decide_eq_false hx]
      have k : RdOut K p l H none (fun (n : Nat) v _ => v = V.int (n : Int)) Q E := by
        have e : digO z.most (x :: r) = none := by
          refine if_neg ?_
          cases z <;> simp only [Lead.most] <;> omega
        rw [e] at k
        exact k
      exact iteT ⟨_, rfl, rd_raise k s2 hp2⟩
    rw [decide_eq_true hx]
    have hm : ∃ c lim : Nat, KDct K w (He.ga K "SIGNS") z.word (.str (SX.S (z.tr.row.map (·.1)))) ∧ atI (SX.S (z.tr.row.map (·.1))).cps.toList 0 = some c ∧ (SX.S (z.tr.row.map (·.1))).length ≤ 3 ∧ KDct K w (He.ga K "MOST") ⟨#[c]⟩ (.int (lim : Int)) ∧ lim = z.most := by
      cases z
      · exact ⟨99, 1, T.f.signK (.col 0), rfl, by decide, T.f.mostK (p := (SX.S [99], 1)) (by simp [mostTab]), rfl⟩
      · exact ⟨99, 1, T.f.signK (.kept 0), rfl, by decide, T.f.mostK (p := (SX.S [99], 1)) (by simp [mostTab]), rfl⟩
      · exact ⟨110, 2, T.f.signK (.call 0 .given), rfl, by decide, T.f.mostK (p := (SX.S [110], 2)) (by simp [mostTab]), rfl⟩
    obtain ⟨c, lim, h1, h2, h3, h4, rfl⟩ := hm
    have hi := int1 (c := x) (by omega)
    refine iteF ⟨_, rfl, _, _, rfl, hi, (by rw [SX.S_len]; show 1 ≤ 640; decide), _, rfl, _, _, _, rfl, rfl, h1, _, _, _, rfl, rfl, (by rw [sizeLine_eq]; omega), h2, _, _, _, rfl, rfl, h4, _, _, rfl, rfl, _, rfl, ?_⟩
    by_cases hle : x - 48 ≤ z.most
    · rw [show decide (((z.most : Nat) : Int) < ((x - 48 : Nat) : Int)) = false from by simp; omega]
      have e : digO z.most (x :: r) = some (x - 48, r) := by
        exact if_pos (by omega)
      exact iteF ⟨_, rfl, _, _, rfl, hi, (by rw [SX.S_len]; show 1 ≤ 640; decide), k.1 _ _ e _ _ (i + 1) s2 hp2 n1 n2 rfl⟩
    · rw [show decide (((z.most : Nat) : Int) < ((x - 48 : Nat) : Int)) = true from by simp; omega]
      have k : RdOut K p l H none (fun (n : Nat) v _ => v = V.int (n : Int)) Q E := by
        have e : digO z.most (x :: r) = none := by
          exact if_neg (by omega)
        rw [e] at k
        exact k
      exact iteT ⟨_, rfl, rd_raise k s2 hp2⟩
/-! ### whole, led, bracket -/
def spR5 (K : PySem.W.Frag) (d : Nat) : Sp := fun vs H Q E => ∃ (p : Addr) (l : List Nat) (i : Nat), vs = [.ref p, .int (13 - (d : Int))] ∧ RdAt K H p l i ∧ l.length ≤ 100000 ∧ RdOut K p l H (prD d (l.drop i)) (fun t v H' => TreeAt H' t v) Q E
def spR6 (K : PySem.W.Frag) (d : Nat) : Sp := fun vs H Q E => ∃ (p : Addr) (z : Lead) (l : List Nat) (i : Nat), vs = [.ref p, .str z.word, .int (12 - (d : Int))] ∧ RdAt K H p l i ∧ l.length ≤ 100000 ∧ RdOut K p l H (ledRes d z (l.drop i)) (fun t v H' => TreeAt H' t v) Q E
def spR7 (K : PySem.W.Frag) (d : Nat) : Sp := fun vs H Q E => ∃ (p : Addr) (l : List Nat) (i : Nat), vs = [.ref p, .int (12 - (d : Int))] ∧ RdAt K H p l i ∧ l.length ≤ 100000 ∧ RdOut K p l H (brRes d (l.drop i)) (fun t v H' => TreeAt H' t v) Q E
theorem SameBut.tupR {p : Addr} {H H' : Hp} {l : List Nat} {i : Nat} (s : SameBut p H H') (hp : RdAt K H p l i) : Tups H H' := by
  obtain ⟨dx, hp⟩ := hp
  exact s.tups hp
theorem RdAt.same {p : Addr} {H H' : Hp} {l : List Nat} {i : Nat} (hp : RdAt K H p l i) (s : Same H H') : RdAt K H' p l i := by
  obtain ⟨dx, hp⟩ := hp
  exact ⟨dx, s _ _ hp⟩
theorem rd_ends {α : Type} {p : Addr} {l : List Nat} {H H1 : Hp} {i : Nat} {o : Option (α × List Nat)} {okv : α → V → Hp → Prop} {Q : VK} {E : XK} (h : RdOut K p l H o okv Q E) (s : SameBut p H H1) (hp : RdAt K H1 p l i) (e : o = none) :
    ∀ d H', SameBut p H1 H' → H1 d = none → H' d = some (.xd [("row", .non)]) → E (.ref (He.ga K "BadText")) (some d) H' := fun d H' s' hd hx => by
  obtain ⟨dx, hp⟩ := hp
  exact h.2 e d H' (s.trans s') (free_but s hp hd) hx
theorem scR6 : FnScope ["self", "word", "deep", "found"] ["self", "word", "deep"] (defScope (inClass (top 49) 6)) := ⟨rfl, rfl, rfl, by decide +kernel, rfl, by decide +kernel, by decide +kernel⟩
theorem ok_r6 (T : Rd P K mg w) {d k : Nat} (W : MetX (L2N.CX P w) P w K mg base k (He.ga K "Reader") "whole" (spR5 K d)) (hk : 3 ≤ k) : MetX (L2N.CX P w) P w K mg base (k + 1) (He.ga K "Reader") "led" (spR6 K d) := by
  refine met_of T.mLed scR6 (fun _ _ _ _ _ _ us hl => match us, hl with | [_, _, _], _ => rfl) (fun vs H Q E ⟨p, z, l, i, e, _⟩ => by rw [e]; rfl) ?_
  rintro f cdv A outer s H vs Q E hr ⟨p, z, l, i, rfl, ⟨dx, hp⟩, hl, kk⟩
  have nd := scR6.nd
  refine ⟨_, pss_cons (ps_set (i := 3) nd rfl (Or.inl rfl) (pe_tup (pa_cons (pv 1) (pa_cons (pe_mx (ok_r4 T) T.C.c hr (L2N.passes_call (L2N.takes_of rfl rfl rfl rfl) (fun _ _ _ _ h => h)) (pv 0) (pa_cons (pv 1) pa_nil) hk) pa_nil))))
    (pss_cons (ps_if (pt_cmpR op_eq (pv 1) pe_str (nomark _))
      (pss_cons (ps_expr (pe_mx (ok_r3 T) T.C.c hr (L2N.passes_call (L2N.takes_of rfl rfl rfl rfl) (fun _ _ _ _ h => h)) (pv 0) (pa_cons pe_str pa_nil) hk))
      (pss_cons (ps_set (i := 3) nd rfl (Or.inl rfl) (pe_tup (StX.pa_star (pv 3) (pa_cons (pe_mx W T.C.c hr (L2N.passes_call (L2N.takes_of rfl rfl rfl rfl) (fun _ _ _ _ h => h)) (pv 0) (pa_cons (pe_op op_add (pv 2) pe_int) pa_nil) (Nat.le_refl _)) pa_nil))))
      (pss_one (ps_expr (pe_mx (ok_r3 T) T.C.c hr (L2N.passes_call (L2N.takes_of rfl rfl rfl rfl) (fun _ _ _ _ h => h)) (pv 0) (pa_cons pe_str pa_nil) hk))))) pss_nil)
    (pss_one (ps_ret (pv 3)))), ?_⟩
  refine ⟨_, rfl, _, rfl, p, dx, _, rfl, hp, by rfl, _, rfl, p, z, l, i, rfl, ⟨dx, hp⟩, hl, ?_, ?_⟩
  · intro n r' e v H1 i1 s1 hp1 hi1 hd1 hv
    subst hv
    refine ⟨(by show 2 ≤ sizeLine; decide), fun t1 ht1 => ⟨_, rfl, rfl, _, rfl, ?_⟩⟩
    have s2 : SameBut p H (upd H1 t1 (.tup [.str z.word, .int (n : Int)])) := s1.trans (Same.but (same_upd ht1))
    have hp2 : RdAt K (upd H1 t1 (.tup [.str z.word, .int (n : Int)])) p l i1 := hp1.same (same_upd ht1)
    have g1 := upd_same (H := H1) (a := t1) (o := .tup [.str z.word, .int (n : Int)])
    cases z
    · rw [show decide (V.str Lead.col.word = V.str "call") = false from by decide +kernel]
      exact iteF ⟨_, rfl, kk.1 (.col n) r' (by rw [led_col, show digO 1 (l.drop i) = some (n, r') from e]; rfl) _ _ i1 s2 hp2 hi1 hd1 ⟨t1, rfl, g1⟩⟩
    · rw [show decide (V.str Lead.kept.word = V.str "call") = false from by decide +kernel]
      exact iteF ⟨_, rfl, kk.1 (.kept n) r' (by rw [led_kept, show digO 1 (l.drop i) = some (n, r') from e]; rfl) _ _ i1 s2 hp2 hi1 hd1 ⟨t1, rfl, g1⟩⟩
    · have e : digO 2 (l.drop i) = some (n, r') := e
      rw [show decide (V.str Lead.call.word = V.str "call") = true from by decide +kernel]
      obtain ⟨dx2, hx2⟩ := hp2
      refine iteT ⟨_, rfl, p, dx2, _, rfl, hx2, by rfl, p, 40, l, i1, by rfl, ⟨dx2, hx2⟩, hl, ?_, ?_⟩
      · intro _ r2 e2 v2 H2 i2 s3 hp3 hi2 hd2 hv2
        subst hv2
        rw [hd1] at e2
        obtain ⟨r2', e2, e2'⟩ := Option.map_eq_some_iff.mp e2
        cases e2'
        have s4 := s2.trans s3
        have g2 : H2 t1 = some (.tup [.str Lead.call.word, .int (n : Int)]) := (s3.tups hx2) _ _ g1
        obtain ⟨dx3, hx3⟩ := hp3
        refine ⟨_, rfl, t1, _, rfl, .inl (.inl (.inl g2)), _, rfl, p, dx3, _, rfl, hx3, by rfl, _, rfl, _, _, rfl, rfl, p, l, i2, ?_, ⟨dx3, hx3⟩, hl, ?_, ?_⟩
        · show [V.ref p, V.int ((12 - (d : Int)) + 1)] = _
          rw [show (12 - (d : Int)) + 1 = 13 - (d : Int) by omega]
        · intro a r3 e3 v3 H3 i3 s5 hp4 hi3 hd3 ha
          rw [hd2] at e3
          have s6 := s4.trans s5
          have g3 : H3 t1 = some (.tup [.str Lead.call.word, .int (n : Int)]) := (s5.tups hx3) _ _ g2
          refine ⟨(by show 3 ≤ sizeLine; decide), fun t2 ht2 => ?_⟩
          have s7 := s6.trans (Same.but (same_upd (o := .tup ([.str Lead.call.word, .int (n : Int)] ++ [v3])) ht2))
          have hp5 := hp4.same (same_upd (o := .tup ([.str Lead.call.word, .int (n : Int)] ++ [v3])) ht2)
          have g4 := upd_same (H := H3) (a := t2) (o := .tup ([.str Lead.call.word, .int (n : Int)] ++ [v3]))
          have ha := ha.tups (Same.tups (same_upd (o := .tup ([.str Lead.call.word, .int (n : Int)] ++ [v3])) ht2))
          generalize upd H3 t2 (.tup ([.str Lead.call.word, .int (n : Int)] ++ [v3])) = H4 at s7 hp5 g4 ha ⊢
          obtain ⟨dx5, hx5⟩ := hp5
          refine ⟨_, rfl, p, dx5, _, rfl, hx5, by rfl, p, 41, l, i3, by rfl, ⟨dx5, hx5⟩, hl, ?_, ?_⟩
          · intro _ r4 e4 v4 H5 i4 s8 hp6 hi4 hd4 hv4
            subst hv4
            rw [hd3] at e4
            obtain ⟨r4', e4, e4'⟩ := Option.map_eq_some_iff.mp e4
            cases e4'
            refine ⟨_, rfl, kk.1 (.call n a) r4 ?_ _ H5 i4 (s7.trans s8) hp6 hi4 hd4 ⟨t2, v3, rfl, s8.tups hx5 _ _ g4, ha.tups (s8.tups hx5)⟩⟩
            rw [led_call, e]
            simp only [Option.bind_some]
            rw [e2]
            simp only [Option.bind_some]
            rw [e3]
            simp only [Option.bind_some]
            rw [e4]
            rfl
          · intro e4
            refine rd_ends kk s7 ⟨dx5, hx5⟩ ?_
            rw [hd3] at e4
            rw [led_call, e]
            simp only [Option.bind_some]
            rw [e2]
            simp only [Option.bind_some]
            rw [e3]
            simp only [Option.bind_some]
            rw [Option.map_eq_none_iff.mp e4]
            rfl
        · intro e3
          refine rd_ends kk s4 ⟨dx3, hx3⟩ ?_
          rw [hd2] at e3
          rw [led_call, e]
          simp only [Option.bind_some]
          rw [e2]
          simp only [Option.bind_some]
          rw [e3]
          rfl
      · intro e2
        refine rd_ends kk s2 ⟨dx2, hx2⟩ ?_
        rw [hd1] at e2
        rw [led_call, e]
        simp only [Option.bind_some]
        rw [Option.map_eq_none_iff.mp e2]
        rfl
  · intro e
    refine rd_ends kk SameBut.refl ⟨dx, hp⟩ ?_
    cases z
    · rw [led_col, show digO 1 (l.drop i) = none from e]
      rfl
    · rw [led_kept, show digO 1 (l.drop i) = none from e]
      rfl
    · rw [led_call, show digO 2 (l.drop i) = none from e]
      rfl
def mids : List (V × V) := [(.str "sum", .str (SX.S [43])), (.str "less", .str (SX.S [45])), (.str "times", .str (SX.S [42])), (.str "same", .str (SX.S [61]))]
def midF (z : Str) (p : V × V) : Option V := if decide (p.2 = .str z) = true then some p.1 else none
theorem mids_nil : mids.filterMap (midF (SX.S [])) = [] := by
  have h : ∀ d, decide (V.str (SX.S [d]) = V.str (SX.S [])) = false := fun d => by
    have := eqS0 d
    rw [decide_eq_false_iff_not] at this ⊢
    exact fun e => this e.symm
  simp only [mids, List.filterMap_cons, midF, h, Bool.false_eq_true, if_false, List.filterMap_nil]
theorem mids_one (s : Nat) : mids.filterMap (midF (SX.S [s])) = match opOf s with | some o => [.str o.word] | none => [] := by
  unfold opOf
  simp only [mids, List.filterMap_cons, midF, eqS1, List.filterMap_nil]
  by_cases h1 : s = 43
  · subst h1; rfl
  by_cases h2 : s = 45
  · subst h2; rfl
  by_cases h3 : s = 42
  · subst h3; rfl
  by_cases h4 : s = 61
  · subst h4; rfl
  rw [if_neg h1, if_neg h2, if_neg h3, if_neg h4]
  rw [decide_eq_false (fun e : 43 = s => h1 e.symm), decide_eq_false (fun e : 45 = s => h2 e.symm), decide_eq_false (fun e : 42 = s => h3 e.symm), decide_eq_false (fun e : 61 = s => h4 e.symm)]
  rfl
theorem scR7 : FnScope ["self", "deep", "one", "sign", "other", "found", "words", "word", "middle"] ["self", "deep"] (defScope (inClass (top 49) 7)) := ⟨rfl, rfl, rfl, by decide +kernel, rfl, by decide +kernel, by decide +kernel⟩
theorem ok_r7 (T : Rd P K mg w) {d k : Nat} (W : MetX (L2N.CX P w) P w K mg base k (He.ga K "Reader") "whole" (spR5 K d)) (hk : 3 ≤ k) : MetX (L2N.CX P w) P w K mg base (k + 1) (He.ga K "Reader") "bracket" (spR7 K d) := by
  refine met_of T.mBracket scR7 (fun _ _ _ _ _ _ us hl => match us, hl with | [_, _], _ => rfl) (fun vs H Q E ⟨p, l, i, e, _⟩ => by rw [e]; rfl) ?_
  rintro f cdv A outer s H vs Q E hr ⟨p, l, i, rfl, ⟨dx, hp⟩, hl, kk⟩
  have nd := scR7.nd
  obtain ⟨q, fI, eT⟩ := T.eT
  refine ⟨_, pss_cons (ps_asg (pe_tup (pa_cons (pe_mx W T.C.c hr (L2N.passes_call (L2N.takes_of rfl rfl rfl rfl) (fun _ _ _ _ h => h)) (pv 0) (pa_cons (pe_op op_add (pv 1) pe_int) pa_nil) (Nat.le_refl _)) (pa_cons (pe_mx0 (ok_r2 T) T.C.c hr pass0 (pv 0) (Nat.le_trans (by decide) hk)) pa_nil)))
      (pg_tup rfl (pgs_cons (pg_name (i := 2) nd rfl (Or.inl rfl)) (pgs_cons (pg_name (i := 3) nd rfl (Or.inr rfl)) pgs_nil))))
    (pss_cons (ps_if (pt_cmpR op_eq (pv 3) pe_str (nomark _))
      (pss_cons (ps_set (i := 4) nd rfl (Or.inl rfl) (pe_mx W T.C.c hr (L2N.passes_call (L2N.takes_of rfl rfl rfl rfl) (fun _ _ _ _ h => h)) (pv 0) (pa_cons (pe_op op_add (pv 1) pe_int) pa_nil) (Nat.le_refl _)))
      (pss_cons (ps_expr (pe_mx (ok_r3 T) T.C.c hr (L2N.passes_call (L2N.takes_of rfl rfl rfl rfl) (fun _ _ _ _ h => h)) (pv 0) (pa_cons pe_str pa_nil) hk))
      (pss_one (ps_set (i := 5) nd rfl (Or.inl rfl) (pe_tup (pa_cons pe_str (pa_cons (pv 2) (pa_cons (pv 4) (pa_cons (pe_mx W T.C.c hr (L2N.passes_call (L2N.takes_of rfl rfl rfl rfl) (fun _ _ _ _ h => h)) (pv 0) (pa_cons (pe_op op_add (pv 1) pe_int) pa_nil) (Nat.le_refl _)) pa_nil)))))))))
      (pss_cons (ps_setLc (i := 6) (own := [("word", 7), ("middle", 8)]) (by rfl) nd rfl rfl (sw_true rfl rfl rfl (by decide +kernel)) (pi_itemsK (pe_glob (by rfl) T.mids (show RelV (.ref (He.ga K "MIDDLES")) _ from rfl))) (blkOk_by (N := ["self", "deep", "one", "sign", "other", "found", "words", "word", "middle"]) (sc := defScope (inClass (top 49) 7)) (by decide +kernel))
          (fun _ _ _ _ _ => pg_tupK K (n := 2) rfl rfl (pgs_cons (pg_name (i := 7) nd rfl (Or.inl rfl)) (pgs_cons (pg_name (i := 8) nd rfl (Or.inl rfl)) pgs_nil))) (fun _ _ _ _ _ => pts_one (pt_cmpR op_eq (pv 8) (pv 3) (nomark _))) (fun _ _ _ _ _ => pv 7))
      (pss_cons (ps_if (pt_cmpR (op_eqW hr.units) (pv 6) (pe_lst pa_nil) (nomark _)) (pss_one (ps_raiseSupN rfl eT (room_rec hr) (L2N.takes_of rfl rfl rfl rfl) (pa_cons pe_non pa_nil) (by rfl))) pss_nil)
      (pss_one (ps_set (i := 5) nd rfl (Or.inl rfl) (pe_tup (pa_cons (pe_ix ix_list (pv 6) pe_int (fun _ _ => rfl)) (pa_cons (pv 2) (pa_cons (pe_mx W T.C.c hr (L2N.passes_call (L2N.takes_of rfl rfl rfl rfl) (fun _ _ _ _ h => h)) (pv 0) (pa_cons (pe_op op_add (pv 1) pe_int) pa_nil) (Nat.le_refl _)) pa_nil)))))))))
    (pss_cons (ps_expr (pe_mx (ok_r3 T) T.C.c hr (L2N.passes_call (L2N.takes_of rfl rfl rfl rfl) (fun _ _ _ _ h => h)) (pv 0) (pa_cons pe_str pa_nil) hk))
    (pss_one (ps_ret (pv 5))))), ?_⟩
  have dp : ∀ {a : Int}, [V.ref p, V.int ((12 - (d : Int)) + 1)] = [V.ref p, V.int (13 - (d : Int))] := by
    intro _
    rw [show (12 - (d : Int)) + 1 = 13 - (d : Int) by omega]
  refine ⟨_, rfl, p, dx, _, rfl, hp, by rfl, _, rfl, _, _, rfl, rfl, p, l, i, dp (a := 0), ⟨dx, hp⟩, hl, ?_, ?_⟩
  case refine_2 =>
    intro e
    refine rd_ends kk SameBut.refl ⟨dx, hp⟩ ?_
    unfold brRes
    rw [e]
    rfl
  intro t1 r1 e1 v1 H1 i1 s1 hp1 hi1 hd1 hv1
  obtain ⟨dx1, hx1⟩ := hp1
  refine ⟨_, rfl, p, dx1, _, rfl, hx1, by rfl, p, l, i1, rfl, ⟨dx1, hx1⟩, hl, fun H2 s2 hp2 => ⟨(by show 2 ≤ sizeLine; decide), fun a1 ha1 => ?_⟩⟩
  have hv1 := hv1.tups (s2.tups hx1)
  have s3 := (s1.trans s2).trans (Same.but (same_upd (o := .tup [v1, .str (SX.S ((l.drop i1).take 1))]) ha1))
  have hv1 := hv1.tups (Same.tups (same_upd (o := .tup [v1, .str (SX.S ((l.drop i1).take 1))]) ha1))
  have hp3 := hp2.same (same_upd (o := .tup [v1, .str (SX.S ((l.drop i1).take 1))]) ha1)
  refine ⟨a1, _, rfl, .inl (.inl upd_same), rfl, _, _, rfl, _, _, rfl, rfl, ?_⟩
  generalize upd H2 a1 (.tup [v1, .str (SX.S ((l.drop i1).take 1))]) = H3 at s3 hv1 hp3
  rw [hd1]
  have eq63 : ("?" : Str) = SX.S [63] := by decide +kernel
  by_cases h63 : ∃ r2, r1 = 63 :: r2
  · obtain ⟨r2, rfl⟩ := h63
    obtain ⟨n1, n2⟩ := drop_next hd1
    rw [show (63 :: r2 : List Nat).take 1 = [63] from rfl]
    refine ⟨_, rfl, rfl, _, rfl, ?_⟩
    rw [eq63, eqS1, decide_eq_true rfl]
    obtain ⟨dx3, hx3⟩ := hp3
    have ebr : brRes d (l.drop i) = (prD d r2).bind fun q2 => (expO 58 q2.2).bind fun r2 => (prD d r2).bind fun q3 => (expO 41 q3.2).map fun r3 => (.whn t1 q2.1 q3.1, r3) := by
      unfold brRes
      rw [e1]
      rfl
    refine iteT ⟨_, rfl, p, dx3, _, rfl, hx3, by rfl, _, rfl, _, _, rfl, rfl, p, l, i1 + 1, dp (a := 0), ⟨dx3, hx3⟩, hl, ?_, ?_⟩
    case refine_2 =>
      intro e
      refine rd_ends kk s3 ⟨dx3, hx3⟩ ?_
      rw [n2] at e
      rw [ebr, e]
      rfl
    intro t2 r3 e2 v2 H4 i2 s4 hp4 hi2 hd2 hv2
    rw [n2] at e2
    have s5 := s3.trans s4
    have hv1 := hv1.tups (s4.tups hx3)
    obtain ⟨dx4, hx4⟩ := hp4
    refine ⟨_, rfl, p, dx4, _, rfl, hx4, by rfl, p, 58, l, i2, by rfl, ⟨dx4, hx4⟩, hl, ?_, ?_⟩
    case refine_2 =>
      intro e
      refine rd_ends kk s5 ⟨dx4, hx4⟩ ?_
      rw [hd2] at e
      rw [ebr, e2]
      simp only [Option.bind_some]
      rw [Option.map_eq_none_iff.mp e]
      rfl
    intro _ r4 e3 v3 H5 i3 s6 hp5 hi3 hd3 hv3
    subst hv3
    rw [hd2] at e3
    obtain ⟨r4', e3, e3'⟩ := Option.map_eq_some_iff.mp e3
    cases e3'
    have s7 := s5.trans s6
    have hv1 := hv1.tups (s6.tups hx4)
    have hv2 := hv2.tups (s6.tups hx4)
    obtain ⟨dx5, hx5⟩ := hp5
    refine ⟨_, rfl, _, rfl, _, rfl, p, dx5, _, rfl, hx5, by rfl, _, rfl, _, _, rfl, rfl, p, l, i3, dp (a := 0), ⟨dx5, hx5⟩, hl, ?_, ?_⟩
    case refine_2 =>
      intro e
      refine rd_ends kk s7 ⟨dx5, hx5⟩ ?_
      rw [hd3] at e
      rw [ebr, e2]
      simp only [Option.bind_some]
      rw [e3]
      simp only [Option.bind_some]
      rw [e]
      rfl
    intro t3 r5 e4 v4 H6 i4 s8 hp6 hi4 hd4 hv4
    rw [hd3] at e4
    have s9 := s7.trans s8
    have hv1 := hv1.tups (s8.tups hx5)
    have hv2 := hv2.tups (s8.tups hx5)
    refine ⟨(by show 4 ≤ sizeLine; decide), fun a2 ha2 => ?_⟩
    have hs := same_upd (o := .tup [.str "when", v1, v2, v4]) ha2
    have hp7 := hp6.same hs
    have hv1 := hv1.tups (Same.tups hs)
    have hv2 := hv2.tups (Same.tups hs)
    have hv4 := hv4.tups (Same.tups hs)
    have s10 := s9.trans (Same.but hs)
    have g7 := upd_same (H := H6) (a := a2) (o := .tup [.str "when", v1, v2, v4])
    obtain ⟨dx7, hx7⟩ := hp7
    refine ⟨_, rfl, p, dx7, _, rfl, hx7, by rfl, p, 41, l, i4, by rfl, ⟨dx7, hx7⟩, hl, ?_, ?_⟩
    case refine_2 =>
      intro e
      refine rd_ends kk s10 ⟨dx7, hx7⟩ ?_
      rw [hd4] at e
      rw [ebr, e2]
      simp only [Option.bind_some]
      rw [e3]
      simp only [Option.bind_some]
      rw [e4]
      simp only [Option.bind_some]
      rw [Option.map_eq_none_iff.mp e]
      rfl
    intro _ r6 e5 v5 H8 i5 s11 hp8 hi5 hd5 hv5
    subst hv5
    rw [hd4] at e5
    obtain ⟨r6', e5, e5'⟩ := Option.map_eq_some_iff.mp e5
    cases e5'
    have ts := s11.tups hx7
    refine ⟨_, rfl, kk.1 (.whn t1 t2 t3) r6 ?_ _ H8 i5 (s10.trans s11) hp8 hi5 hd5 ⟨a2, v1, v2, v4, rfl, ts _ _ g7, hv1.tups ts, hv2.tups ts, hv4.tups ts⟩⟩
    rw [ebr, e2]
    simp only [Option.bind_some]
    rw [e3]
    simp only [Option.bind_some]
    rw [e4]
    simp only [Option.bind_some]
    rw [e5]
    rfl
  · have hne : decide (V.str (SX.S (r1.take 1)) = V.str "?") = false := by
      rw [eq63]
      cases r1 with
      | nil => exact eqS0 _
      | cons s r =>
        rw [show (s :: r).take 1 = [s] from rfl, eqS1]
        exact decide_eq_false fun e => h63 ⟨r, by rw [e]⟩
    refine ⟨_, rfl, rfl, _, rfl, ?_⟩
    rw [hne]
    refine iteF ⟨_, mids, rfl, T.midsE, fun D hD => lc_itkS hD (by show 4 < sizeLine; decide) (midF (SX.S (r1.take 1))) ?_ ?_⟩
    · intro j x y tp H' R Rz hxy s4 htp kn ks
      refine ⟨tp, _, rfl, .inl (.inl htp), rfl, _, _, rfl, _, _, rfl, rfl, rfl, ?_⟩
      have hy : scal y (V.str (SX.S (r1.take 1))) = true := by
        match j, hxy with
        | 0, h => cases h; rfl
        | 1, h => cases h; rfl
        | 2, h => cases h; rfl
        | 3, h => cases h; rfl
        | n + 4, h => simp [mids] at h
      refine ⟨_, rfl, _, rfl, hy, _, rfl, ?_⟩
      cases hb : decide (y = V.str (SX.S (r1.take 1))) with
      | false => exact iteF (kn _ (by unfold midF; rw [hb]; rfl) (Same.refl _))
      | true => exact iteT ⟨_, rfl, ks _ _ (by unfold midF; rw [hb]; rfl) (Same.refl _)⟩
    · intro H4 s4 hDq
      obtain ⟨dx3, hx3⟩ := hp3
      have hx4 := s4 _ _ hx3
      have hv1 := hv1.tups (Same.tups s4)
      have s5 := s3.trans (Same.but s4)
      cases r1 with
      | nil =>
        rw [show (([] : List Nat).take 1) = [] from rfl, mids_nil] at hDq
        refine ⟨_, rfl, Nat.zero_le _, fun a2 ha2 => ?_⟩
        have hs := same_upd (o := .lst []) ha2
        refine ⟨D, a2, [], [], rfl, rfl, SqL.of (hs _ _ hDq), SqL.of upd_same, rfl, rfl, _, rfl, iteT ⟨_, rfl, ?_⟩⟩
        have ebr : brRes d (l.drop i) = none := by
          unfold brRes
          rw [e1]
          rfl
        rw [ebr] at kk
        exact rd_raise kk (s5.trans (Same.but hs)) ⟨dx3, hs _ _ hx4⟩
      | cons s r =>
        obtain ⟨n1, n2⟩ := drop_next hd1
        have hs63 : ¬ s = 63 := fun e => h63 ⟨r, by rw [e]⟩
        have ebr : brRes d (l.drop i) = (opOf s).bind fun o => (prD d r).bind fun q2 => (expO 41 q2.2).map fun r2 => (.bin o t1 q2.1, r2) := by
          unfold brRes
          rw [e1]
          exact if_neg hs63
        rw [show (s :: r).take 1 = [s] from rfl, mids_one] at hDq
        refine ⟨_, rfl, Nat.zero_le _, fun a2 ha2 => ?_⟩
        have hs := same_upd (o := .lst []) ha2
        have s6 := s5.trans (Same.but hs)
        have hx5 := hs _ _ hx4
        have hv1 := hv1.tups (Same.tups hs)
        cases ho : opOf s with
        | none =>
          rw [ho] at hDq ebr
          refine ⟨D, a2, [], [], rfl, rfl, SqL.of (hs _ _ hDq), SqL.of upd_same, rfl, rfl, _, rfl, iteT ⟨_, rfl, ?_⟩⟩
          rw [show brRes d (l.drop i) = none from ebr] at kk
          exact rd_raise kk s6 ⟨dx3, hx5⟩
        | some o =>
          rw [ho] at hDq ebr
          have hDq : H4 D = some (.lst [.str o.word]) := hDq
          refine ⟨D, a2, [o.word], [], rfl, rfl, SqL.of (hs _ _ hDq), SqL.of upd_same, by cases o <;> decide +kernel, rfl, _, rfl, iteF ?_⟩
          refine ⟨_, rfl, D, _, 0, _, rfl, rfl, SqL.of (hs _ _ hDq), atI_nat (j := 0) rfl, _, rfl, _, rfl, p, dx3, _, rfl, hx5, by rfl, _, rfl, _, _, rfl, rfl, p, l, i1 + 1, dp (a := 0), ⟨dx3, hx5⟩, hl, ?_, ?_⟩
          case refine_2 =>
            intro e
            refine rd_ends kk s6 ⟨dx3, hx5⟩ ?_
            rw [n2] at e
            rw [ebr]
            simp only [Option.bind_some]
            rw [e]
            rfl
          intro t2 r3 e2 v2 H6 i2 s7 hp6 hi2 hd2 hv2
          rw [n2] at e2
          have s8 := s6.trans s7
          have hv1 := hv1.tups (s7.tups hx5)
          refine ⟨(by show 3 ≤ sizeLine; decide), fun a3 ha3 => ?_⟩
          have hs3 := same_upd (o := .tup [.str o.word, v1, v2]) ha3
          have hp7 := hp6.same hs3
          have hv1 := hv1.tups (Same.tups hs3)
          have hv2 := hv2.tups (Same.tups hs3)
          have s9 := s8.trans (Same.but hs3)
          have g7 := upd_same (H := H6) (a := a3) (o := .tup [.str o.word, v1, v2])
          obtain ⟨dx7, hx7⟩ := hp7
          refine ⟨_, rfl, p, dx7, _, rfl, hx7, by rfl, p, 41, l, i2, by rfl, ⟨dx7, hx7⟩, hl, ?_, ?_⟩
          case refine_2 =>
            intro e
            refine rd_ends kk s9 ⟨dx7, hx7⟩ ?_
            rw [hd2] at e
            rw [ebr]
            simp only [Option.bind_some]
            rw [e2]
            simp only [Option.bind_some]
            rw [Option.map_eq_none_iff.mp e]
            rfl
          intro _ r6 e5 v5 H8 i5 s11 hp8 hi5 hd5 hv5
          subst hv5
          rw [hd2] at e5
          obtain ⟨r6', e5, e5'⟩ := Option.map_eq_some_iff.mp e5
          cases e5'
          have ts := s11.tups hx7
          refine ⟨_, rfl, kk.1 (.bin o t1 t2) r6 ?_ _ H8 i5 (s9.trans s11) hp8 hi5 hd5 ⟨a3, v1, v2, rfl, ts _ _ g7, hv1.tups ts, hv2.tups ts⟩⟩
          rw [ebr]
          simp only [Option.bind_some]
          rw [e2]
          simp only [Option.bind_some]
          rw [e5]
          rfl
theorem sg_of {l : List Nat} {i n : Nat} (h : decide (V.str (SX.S ((l.drop i).take 1)) = V.str (SX.S [n])) = true) : ∃ r, l.drop i = n :: r := by
  cases e : l.drop i with
  | nil =>
    rw [e, show (([] : List Nat).take 1) = [] from rfl, eqS0] at h
    cases h
  | cons c r =>
    rw [e, show (c :: r).take 1 = [c] from rfl, eqS1] at h
    exact ⟨r, by rw [of_decide_eq_true h]⟩
theorem sg_no {l r : List Nat} {i n c : Nat} (h : decide (V.str (SX.S ((l.drop i).take 1)) = V.str (SX.S [n])) = false) (e : l.drop i = c :: r) : ¬ c = n := by
  rw [e, show (c :: r).take 1 = [c] from rfl, eqS1] at h
  exact of_decide_eq_false h
theorem scR5 : FnScope ["self", "deep", "sign", "word", "lead"] ["self", "deep"] (defScope (inClass (top 49) 5)) := ⟨rfl, rfl, rfl, by decide +kernel, rfl, by decide +kernel, by decide +kernel⟩
theorem ok_r5a (T : Rd P K mg w) {d k : Nat} (hd : d ≤ 12) (L : MetX (L2N.CX P w) P w K mg base k (He.ga K "Reader") "led" (spR6 K d)) (Br : MetX (L2N.CX P w) P w K mg base k (He.ga K "Reader") "bracket" (spR7 K d)) (hk : 3 ≤ k) : MetX (L2N.CX P w) P w K mg base (k + 1) (He.ga K "Reader") "whole" (spR5 K (d + 1)) := by
  refine met_of T.mWhole scR5 (fun _ _ _ _ _ _ us hl => match us, hl with | [_, _], _ => rfl) (fun vs H Q E ⟨p, l, i, e, _⟩ => by rw [e]; rfl) ?_
  rintro f cdv A outer s H vs Q E hr ⟨p, l, i, rfl, ⟨dx, hp⟩, hl, kk⟩
  have nd := scR5.nd
  have B := T.f.B
  obtain ⟨q, fI, eT⟩ := T.eT
  refine ⟨_, pss_cons (ps_if (pt_cmpR op_gt (pv 1) pe_int (nomark _)) pss_never pss_nil)
    (pss_cons (ps_set (i := 2) nd rfl (Or.inl rfl) (pe_mx0 (ok_r2 T) T.C.c hr pass0 (pv 0) (Nat.le_trans (by decide) hk)))
    (pss_cons (ps_if (pt_cmpR op_in_seq (pv 2) (pe_tup (pa_cons pe_str (pa_cons pe_str (pa_cons pe_str pa_nil)))) (by rfl)) (pss_one (ps_ret (pe_tup (pa_cons pe_str (pa_cons (pe_callTy call_int_str (by rfl) B.int_ (by decide +kernel) (pa_cons (pv 2) pa_nil)) pa_nil))))) pss_nil)
    (pss_cons (ps_for (passes_of rfl) rfl (pi_itemsK (pe_glob (by rfl) T.leaves (show RelV (.ref (He.ga K "LEAVES")) _ from rfl))) (pg_tup rfl (pgs_cons (pg_name (i := 3) nd rfl (Or.inl rfl)) (pgs_cons (pg_name (i := 4) nd rfl (Or.inl rfl)) pgs_nil)))
      (pss_one (ps_if (pt_cmpR op_eq (pv 2) (pv 4) (nomark _)) (pss_one (ps_ret (pe_tup (pa_cons (pv 3) pa_nil)))) pss_nil)))
    (pss_cons (ps_for (passes_of rfl) rfl (pi_itemsK (pe_glob (by rfl) T.leads (show RelV (.ref (He.ga K "LEADS")) _ from rfl))) (pg_tup rfl (pgs_cons (pg_name (i := 3) nd rfl (Or.inl rfl)) (pgs_cons (pg_name (i := 4) nd rfl (Or.inl rfl)) pgs_nil)))
      (pss_one (ps_if (pt_cmpR op_eq (pv 2) (pv 4) (nomark _)) (pss_one (ps_ret (pe_mx L T.C.c hr (L2N.passes_call (L2N.takes_of rfl rfl rfl rfl) (fun _ _ _ _ h => h)) (pv 0) (pa_cons (pv 3) (pa_cons (pv 1) pa_nil)) (Nat.le_refl _)))) pss_nil)))
    (pss_cons (ps_if (pt_cmpR op_ne (pv 2) pe_str (nomark _)) (pss_one (ps_raiseSupN rfl eT (room_rec hr) (L2N.takes_of rfl rfl rfl rfl) (pa_cons pe_non pa_nil) (by rfl))) pss_nil)
    (pss_one (ps_ret (pe_mx Br T.C.c hr (L2N.passes_call (L2N.takes_of rfl rfl rfl rfl) (fun _ _ _ _ h => h)) (pv 0) (pa_cons (pv 1) pa_nil) (Nat.le_refl _))))))))), ?_⟩
  have edp : (13 - ((d + 1 : Nat) : Int)) = 12 - (d : Int) := by omega
  rw [edp]
  refine ⟨_, rfl, _, 12, rfl, rfl, _, rfl, ?_⟩
  rw [show decide ((12 : Int) < 12 - (d : Int)) = false from by simp; omega]
  refine iteF ⟨_, rfl, p, dx, _, rfl, hp, by rfl, p, l, i, rfl, ⟨dx, hp⟩, hl, fun H1 s1 hp1 => ⟨_, rfl, (by show 3 ≤ sizeLine; decide), fun t ht => ?_⟩⟩
  have ht1 := same_upd (o := .tup [.str "0", .str "1", .str "2"]) ht
  have s2 := s1.trans (Same.but ht1)
  have hp2 := hp1.same ht1
  refine ⟨t, _, rfl, .inr (.inl (.inl upd_same)), rfl, by decide +kernel, _, rfl, ?_⟩
  generalize upd H1 t (.tup [.str "0", .str "1", .str "2"]) = H2 at s2 hp2
  rw [if_neg Bool.false_ne_true]
  have hdig : ∀ b, inV (.str (SX.S ((l.drop i).take 1))) [.str "0", .str "1", .str "2"] = b → (b = true → ∃ c r, l.drop i = c :: r ∧ 48 ≤ c ∧ c ≤ 50) ∧ (b = false → ∀ c r, l.drop i = c :: r → ¬ (48 ≤ c ∧ c ≤ 50)) := by
    rintro b rfl
    cases e : l.drop i with
    | nil =>
      rw [show (([] : List Nat).take 1) = [] from rfl, in012n]
      exact ⟨(fun h => by cases h), fun _ c r h => by cases h⟩
    | cons c r =>
      rw [show (c :: r).take 1 = [c] from rfl, in012]
      exact ⟨fun h => ⟨c, r, rfl, of_decide_eq_true h⟩, fun h c' r' e' => by cases e'; exact of_decide_eq_false h⟩
  obtain ⟨dig1, dig2⟩ := hdig _ rfl
  cases hb : inV (.str (SX.S ((l.drop i).take 1))) [.str "0", .str "1", .str "2"] with
  | true =>
    obtain ⟨c, r, e, h1, h2⟩ := dig1 hb
    obtain ⟨n1, n2⟩ := drop_next e
    rw [e, show (c :: r).take 1 = [c] from rfl]
    refine iteT ⟨_, rfl, _, _, rfl, int1 (c := c) ⟨h1, by omega⟩, (by rw [SX.S_len]; show 1 ≤ 640; decide), (by show 2 ≤ sizeLine; decide), fun a ha => ?_⟩
    have hs := same_upd (o := .tup [.str "number", .int ((c - 48 : Nat) : Int)]) ha
    exact kk.1 (.num (c - 48)) r (by rw [e, prD_cons, if_pos ⟨h1, h2⟩]) _ _ (i + 1) (s2.trans (Same.but hs)) (hp2.same hs) n1 n2 ⟨a, rfl, upd_same⟩
  | false =>
    have dig2 := dig2 hb
    refine iteF ⟨_, _, rfl, T.leavesE, for_itk (fun j σ H' => ∃ x3 x4, σ = [some (.ref p), some (.int (12 - (d : Int))), some (.str (SX.S ((l.drop i).take 1))), x3, x4] ∧ Same H2 H' ∧
        (1 ≤ j → decide (V.str (SX.S ((l.drop i).take 1)) = V.str (SX.S [103])) = false) ∧ (2 ≤ j → decide (V.str (SX.S ((l.drop i).take 1)) = V.str (SX.S [115])) = false)) ⟨_, _, rfl, Same.refl _, by omega, by omega⟩ ?_ ?_⟩
    · rintro j x y tp σ H' hxy ⟨x3, x4, rfl, s3, o1, o2⟩ htp
      have hs3 := same_upd (o := .tup [x, y]) htp
      obtain ⟨wd, n, tr, rfl, rfl, htr, hok⟩ : ∃ (wd : Str) (n : Nat) (tr : Tr), x = .str wd ∧ y = .str (SX.S [n]) ∧ (∀ r, prD (d + 1) (n :: r) = some (tr, r) ∧ ∀ (H : Hp) (a : Addr), H a = some (.tup [.str wd]) → TreeAt H tr (.ref a)) ∧
          (decide (V.str (SX.S ((l.drop i).take 1)) = V.str (SX.S [n])) = false → (1 ≤ j + 1 → decide (V.str (SX.S ((l.drop i).take 1)) = V.str (SX.S [103])) = false) ∧ (2 ≤ j + 1 → decide (V.str (SX.S ((l.drop i).take 1)) = V.str (SX.S [115])) = false)) := by
        match j, hxy, o1 with
        | 0, h, _ => cases h; exact ⟨_, 103, .given, rfl, rfl, fun r => ⟨rfl, fun H a h => ⟨a, rfl, h⟩⟩, fun e => ⟨fun _ => e, by omega⟩⟩
        | 1, h, o1 => cases h; exact ⟨_, 115, .setting, rfl, rfl, fun r => ⟨rfl, fun H a h => ⟨a, rfl, h⟩⟩, fun e => ⟨fun _ => o1 (Nat.le_refl _), fun _ => e⟩⟩
        | n + 2, h, _ => simp at h
      refine ⟨tp, _, rfl, .inl (.inl upd_same), rfl, _, _, rfl, _, _, rfl, rfl, ?_⟩
      refine ⟨_, rfl, _, rfl, rfl, _, rfl, ?_⟩
      cases hdc : decide (V.str (SX.S ((l.drop i).take 1)) = V.str (SX.S [n])) with
      | false =>
        obtain ⟨w1, w2⟩ := hok hdc
        exact iteF ⟨some (.str wd), some (.str (SX.S [n])), rfl, s3.trans hs3, w1, w2⟩
      | true =>
        obtain ⟨r, e⟩ := sg_of hdc
        obtain ⟨n1, n2⟩ := drop_next e
        refine iteT ⟨_, rfl, (by show 1 ≤ sizeLine; decide), fun a ha => ?_⟩
        have hs4 := same_upd (o := .tup [.str wd]) ha
        have sq := s3.trans (hs3.trans hs4)
        exact kk.1 tr r (by rw [e]; exact (htr r).1) _ _ (i + 1) (s2.trans (Same.but sq)) (hp2.same sq) n1 n2 ((htr r).2 _ a upd_same)
    · rintro σ H' ⟨x3, x4, rfl, s3, o1, o2⟩
      have o1 := o1 (by show 1 ≤ 2; decide)
      have o2 := o2 (by show 2 ≤ 2; decide)
      have s4 := s2.trans (Same.but s3)
      have hp4 := hp2.same s3
      refine ⟨_, _, rfl, T.leadsE, for_itk (fun j σ H'' => ∃ x3 x4, σ = [some (.ref p), some (.int (12 - (d : Int))), some (.str (SX.S ((l.drop i).take 1))), x3, x4] ∧ Same H' H'' ∧
        (1 ≤ j → decide (V.str (SX.S ((l.drop i).take 1)) = V.str (SX.S [99])) = false) ∧ (2 ≤ j → decide (V.str (SX.S ((l.drop i).take 1)) = V.str (SX.S [107])) = false) ∧ (3 ≤ j → decide (V.str (SX.S ((l.drop i).take 1)) = V.str (SX.S [102])) = false)) ⟨_, _, rfl, Same.refl _, by omega, by omega, by omega⟩ ?_ ?_⟩
      · rintro j x y tp σ H5 hxy ⟨x3, x4, rfl, s5, u1, u2, u3⟩ htp
        have hs5 := same_upd (o := .tup [x, y]) htp
        obtain ⟨ld, rfl, rfl, hok⟩ : ∃ (ld : Lead), x = .str ld.word ∧ y = .str (SX.S [ld.sign]) ∧
          (decide (V.str (SX.S ((l.drop i).take 1)) = V.str (SX.S [ld.sign])) = false → (1 ≤ j + 1 → decide (V.str (SX.S ((l.drop i).take 1)) = V.str (SX.S [99])) = false) ∧ (2 ≤ j + 1 → decide (V.str (SX.S ((l.drop i).take 1)) = V.str (SX.S [107])) = false) ∧ (3 ≤ j + 1 → decide (V.str (SX.S ((l.drop i).take 1)) = V.str (SX.S [102])) = false)) := by
          match j, hxy, u1, u2 with
          | 0, h, _, _ => cases h; exact ⟨.col, rfl, rfl, fun e => ⟨fun _ => e, by omega, by omega⟩⟩
          | 1, h, u1, _ => cases h; exact ⟨.kept, rfl, rfl, fun e => ⟨fun _ => u1 (Nat.le_refl _), fun _ => e, by omega⟩⟩
          | 2, h, u1, u2 => cases h; exact ⟨.call, rfl, rfl, fun e => ⟨fun _ => u1 (by decide), fun _ => u2 (Nat.le_refl _), fun _ => e⟩⟩
          | n + 3, h, _, _ => simp at h
        refine ⟨tp, _, rfl, .inl (.inl upd_same), rfl, _, _, rfl, _, _, rfl, rfl, ?_⟩
        refine ⟨_, rfl, _, rfl, rfl, _, rfl, ?_⟩
        cases hdc : decide (V.str (SX.S ((l.drop i).take 1)) = V.str (SX.S [ld.sign])) with
        | false =>
          obtain ⟨w1, w2, w3⟩ := hok hdc
          exact iteF ⟨some (.str ld.word), some (.str (SX.S [ld.sign])), rfl, s5.trans hs5, w1, w2, w3⟩
        | true =>
          obtain ⟨r, e⟩ := sg_of hdc
          obtain ⟨n1, n2⟩ := drop_next e
          have sq := s5.trans hs5
          have s6 := s4.trans (Same.but sq)
          obtain ⟨dx6, hx6⟩ := hp4.same sq
          have epr : prD (d + 1) (l.drop i) = ledRes d ld (l.drop (i + 1)) := by
            rw [e, n2]
            cases ld <;> rfl
          rw [epr] at kk
          exact iteT ⟨_, rfl, p, dx6, _, rfl, hx6, by rfl, _, rfl, _, rfl, p, ld, l, i + 1, rfl, ⟨dx6, hx6⟩, hl, kk.pre s6 hx6⟩
      · rintro σ H5 ⟨x3, x4, rfl, s5, u1, u2, u3⟩
        have u1 := u1 (by show 1 ≤ 3; decide)
        have u2 := u2 (by show 2 ≤ 3; decide)
        have u3 := u3 (by show 3 ≤ 3; decide)
        have s6 := s4.trans (Same.but s5)
        obtain ⟨dx6, hx6⟩ := hp4.same s5
        refine ⟨_, rfl, rfl, _, rfl, ?_⟩
        rw [show ("(" : Str) = SX.S [40] from by decide +kernel]
        cases hdc : decide (V.str (SX.S ((l.drop i).take 1)) = V.str (SX.S [40])) with
        | true =>
          obtain ⟨r, e⟩ := sg_of hdc
          obtain ⟨n1, n2⟩ := drop_next e
          have epr : prD (d + 1) (l.drop i) = brRes d (l.drop (i + 1)) := by
            rw [e, n2]
            rfl
          rw [epr] at kk
          exact iteF ⟨_, rfl, p, dx6, _, rfl, hx6, by rfl, _, rfl, p, l, i + 1, rfl, ⟨dx6, hx6⟩, hl, kk.pre s6 hx6⟩
        | false =>
          have epr : prD (d + 1) (l.drop i) = none := by
            cases e : l.drop i with
            | nil => rfl
            | cons c r =>
              rw [prD_cons, if_neg (dig2 c r e), if_neg (sg_no o1 e), if_neg (sg_no o2 e), if_neg (sg_no u1 e), if_neg (sg_no u2 e), if_neg (sg_no u3 e), if_neg (sg_no hdc e)]
          rw [epr] at kk
          exact iteT ⟨_, rfl, rd_raise kk s6 ⟨dx6, hx6⟩⟩
theorem ok_r5z (T : Rd P K mg w) : MetX (L2N.CX P w) P w K mg base 4 (He.ga K "Reader") "whole" (spR5 K 0) := by
  refine met_of T.mWhole scR5 (fun _ _ _ _ _ _ us hl => match us, hl with | [_, _], _ => rfl) (fun vs H Q E ⟨p, l, i, e, _⟩ => by rw [e]; rfl) ?_
  rintro f cdv A outer s H vs Q E hr ⟨p, l, i, rfl, hp, hl, kk⟩
  obtain ⟨q, fI, eT⟩ := T.eT
  refine ⟨_, pss_cons (ps_if (pt_cmpR op_gt (pv 1) pe_int (nomark _)) (pss_one (ps_raiseSupN rfl eT (room_rec hr) (L2N.takes_of rfl rfl rfl rfl) (pa_cons pe_non pa_nil) (by rfl))) pss_nil) pss_never, ?_⟩
  refine ⟨_, rfl, _, 12, rfl, rfl, true, rfl, iteT ⟨_, rfl, rd_raise kk SameBut.refl hp⟩⟩
theorem ok_r5 (T : Rd P K mg w) : ∀ d, d ≤ 13 → MetX (L2N.CX P w) P w K mg base (4 + 2 * d) (He.ga K "Reader") "whole" (spR5 K d)
  | 0, _ => ok_r5z T
  | d + 1, h => by
    have W := ok_r5 T d (by omega)
    exact ok_r5a T (k := 4 + 2 * d + 1) (by omega) (ok_r6 T W (by omega)) (ok_r7 T W (by omega)) (by omega)
end
end Km
set_option Elab.async false
set_option linter.all false
set_option maxRecDepth 100000
set_option maxHeartbeats 4000000
/-! lines, words; where the first bad line is -/
namespace Km
open PySem PySem.Spec PyProof.Rows L2
def cut (c : Nat) : List Nat → List (List Nat)
  | [] => [[]]
  | x :: r => if x = c then [] :: cut c r else match cut c r with
    | [] => [[x]]
    | p :: ps => (x :: p) :: ps
theorem cut_ne (c : Nat) : ∀ l, cut c l ≠ []
  | [] => by simp [cut]
  | x :: r => by
    unfold cut
    split
    · simp
    · split <;> simp
theorem spl_cut (c : Nat) : ∀ (l acc : List Nat), TL.spl [c] 0 acc l = match cut c l with
    | [] => [acc]
    | p :: ps => (acc ++ p) :: ps
  | [], acc => by simp [TL.spl, cut]
  | x :: r, acc => by
    unfold TL.spl cut
    by_cases h : x = c
    · subst h
      have hp : TL.pre [x] (x :: r) = true := by simp [TL.pre]
      have ih := spl_cut x r []
      rw [if_pos hp, if_pos rfl]
      show acc :: TL.spl [x] 0 [] r = _
      rw [ih]
      cases e : cut x r with
      | nil => exact absurd e (cut_ne x r)
      | cons p ps => simp
    · have hp : ¬ TL.pre [c] (x :: r) = true := by simp [TL.pre]; exact h
      have ih := spl_cut c r (acc ++ [x])
      rw [if_neg hp, if_neg h, ih]
      cases e : cut c r with
      | nil => simp
      | cons p ps => simp
theorem split_cut (l : List Nat) (c : Nat) (hc : c < 256) : Txt.split (SX.S l) (SX.S [c]) = (cut c l).map SX.S := by
  rw [SX.split_S (by simp) (by simp [hc]), spl_cut]
  cases e : cut c l with
  | nil => exact absurd e (cut_ne c l)
  | cons p ps => simp
def Asc (l : List Nat) : Prop := ∀ c ∈ l, c < 128
theorem cut_mem {c : Nat} : ∀ {l p : List Nat}, p ∈ cut c l → ∀ x ∈ p, x ∈ l ∧ x ≠ c
  | [], p, h => by
    simp [cut] at h
    subst h
    intro x hx
    cases hx
  | a :: r, p, h => by
    unfold cut at h
    split at h
    · rcases List.mem_cons.mp h with rfl | h
      · intro x hx; cases hx
      · intro x hx
        obtain ⟨h1, h2⟩ := cut_mem h x hx
        exact ⟨List.mem_cons_of_mem _ h1, h2⟩
    · rename_i hne
      cases e : cut c r with
      | nil => exact absurd e (cut_ne c r)
      | cons q qs =>
        rw [e] at h
        rcases List.mem_cons.mp h with rfl | h
        · intro x hx
          rcases List.mem_cons.mp hx with rfl | hx
          · exact ⟨List.mem_cons_self .., hne⟩
          · obtain ⟨h1, h2⟩ := cut_mem (c := c) (l := r) (by rw [e]; exact List.mem_cons_self ..) x hx
            exact ⟨List.mem_cons_of_mem _ h1, h2⟩
        · intro x hx
          obtain ⟨h1, h2⟩ := cut_mem (c := c) (l := r) (by rw [e]; exact List.mem_cons_of_mem _ h) x hx
          exact ⟨List.mem_cons_of_mem _ h1, h2⟩
theorem Asc.cut {l p : List Nat} {c : Nat} (h : Asc l) (hp : p ∈ cut c l) : Asc p := fun x hx => h x (cut_mem hp x hx).1
theorem cut_len {c : Nat} : ∀ {l p : List Nat}, p ∈ cut c l → p.length ≤ l.length
  | [], p, h => by
    simp [cut] at h
    subst h
    exact Nat.le_refl _
  | a :: r, p, h => by
    unfold cut at h
    split at h
    · rcases List.mem_cons.mp h with rfl | h
      · exact Nat.zero_le _
      · exact Nat.le_succ_of_le (cut_len h)
    · cases e : cut c r with
      | nil => exact absurd e (cut_ne c r)
      | cons q qs =>
        rw [e] at h
        rcases List.mem_cons.mp h with rfl | h
        · have := cut_len (c := c) (l := r) (p := q) (by rw [e]; exact List.mem_cons_self ..)
          simp only [List.length_cons]
          omega
        · exact Nat.le_succ_of_le (cut_len (c := c) (l := r) (by rw [e]; exact List.mem_cons_of_mem _ h))
theorem cut_count {c : Nat} : ∀ l : List Nat, (cut c l).length ≤ l.length + 1
  | [] => Nat.le_refl _
  | a :: r => by
    have ih := cut_count (c := c) r
    unfold cut
    split
    · simp only [List.length_cons]
      omega
    · cases e : cut c r with
      | nil => simp
      | cons q qs =>
        rw [e] at ih
        simp only [List.length_cons] at ih ⊢
        omega
/-- the codes of a written text -/
def cs (s : String) : List Nat := s.toList.map Char.toNat
def dg1 : List Nat → Bool
  | [c] => decide (48 ≤ c ∧ c ≤ 57)
  | _ => false
def dgv : List Nat → Nat
  | [c] => c - 48
  | _ => 0
def digs (ws : List (List Nat)) : Option (List Nat) := if ws.all dg1 = true then some (ws.map dgv) else none
def takeW (k : List Nat) : List (List Nat) → Option (List Nat)
  | h :: ws => if h = k then digs ws else none
  | [] => none
def takeL (k : List Nat) : Option (List Nat) → Option (List Nat)
  | none => none
  | some l => takeW k (cut 32 l)
def take1 (k : List Nat) (l : Option (List Nat)) : Option Nat := match takeL k l with
  | some [n] => some n
  | _ => none
/-- a word as a tree -/
def treeOf (l : List Nat) : Option Tr := match prD 12 l with
  | some (t, []) => if t.size ≤ 12 then some t else none
  | _ => none
def GoodW (l : List Nat) : Prop := ∀ t, prD 12 l = some (t, []) → t.size ≤ 12
def treesOf : List (List Nat) → Option (List Tr)
  | [] => some []
  | w :: ws => match treeOf w with
    | none => none
    | some t => (treesOf ws).map (t :: ·)
theorem treesOf_len : ∀ {ws : List (List Nat)} {ts : List Tr}, treesOf ws = some ts → ts.length = ws.length
  | [], ts, h => by cases h; rfl
  | w :: ws, ts, h => by
    unfold treesOf at h
    cases e : treeOf w with
    | none => rw [e] at h; cases h
    | some t =>
      rw [e] at h
      obtain ⟨ts', e', rfl⟩ := Option.map_eq_some_iff.mp h
      simp [treesOf_len e']
def funsGo (b : Nat) : List (List Tr) → List (List Nat) → Bool × List (List Tr)
  | fs, [] => (true, fs)
  | fs, l :: ls => match cut 32 l with
    | [] => (true, fs)
    | h :: ws => if h = cs "function" then match treesOf ws with
        | none => (false, fs)
        | some bs => if funsAll b (fs ++ [bs]) = true then funsGo b (fs ++ [bs]) ls else (false, fs)
      else (true, fs)
inductive BookR where
  | bad (a : Nat)
  | ok (b s : Nat) (fs : List (List Tr))
def bookR (ls : List (List Nat)) : BookR := match take1 (cs "base") ls[0]? with
  | none => .bad 0
  | some b => if ¬ (2 ≤ b ∧ b ≤ 3) then .bad 0 else match take1 (cs "settings") ls[1]? with
    | none => .bad 1
    | some s => if ¬ (1 ≤ s ∧ s ≤ b) then .bad 1 else
      if (funsGo b [] (ls.drop 2)).1 = true then (if (funsGo b [] (ls.drop 2)).2 = [] then .bad 2 else .ok b s (funsGo b [] (ls.drop 2)).2) else .bad (2 + (funsGo b [] (ls.drop 2)).2.length)
def modeOf (l : List Nat) : Option Mode := if l = cs "kept" then some .kept else if l = cs "again" then some .again else if l = cs "check" then some .check else none
def thGo (b m c : Nat) : List (Mode × Tr) → List (List Nat) → Bool × List (Mode × Tr)
  | ths, [] => (true, ths)
  | ths, l :: ls => match cut 32 l with
    | [] => (true, ths)
    | h :: ws => if h = cs "thing" then match ws with
        | [md, x] => match modeOf md with
          | none => (false, ths)
          | some mo => match treeOf x with
            | none => (false, ths)
            | some t => if thAll b m c (ths ++ [(mo, t)]) = true then thGo b m c (ths ++ [(mo, t)]) ls else (false, ths)
        | _ => (false, ths)
      else (true, ths)
def someOk (k : List Nat) (m : Nat) (e : Bool) (l : Option (List Nat)) : Bool := match takeL k l with
  | none => false
  | some ns => risOk m ns && (e || !ns.isEmpty)
/-- where a plan's lines are bad first -/
def planAt (ls : List (List Nat)) (whole : Bool) : Option Nat := match bookR ls with
  | .bad a => some a
  | .ok b s fs => match take1 (cs "columns") ls[2 + fs.length]? with
    | none => some (2 + fs.length)
    | some c => if ¬ (1 ≤ c ∧ c ≤ 2) then some (2 + fs.length) else
      let r := thGo b fs.length c [] (ls.drop (3 + fs.length))
      if r.1 = false then some (3 + fs.length + r.2.length) else if r.2 = [] then some (3 + fs.length) else
      let a := 3 + fs.length + r.2.length
      if someOk (cs "free") fs.length true ls[a]? = false then some a else if someOk (cs "writers") s false ls[a + 1]? = false then some (a + 1) else if someOk (cs "askers") s false ls[a + 2]? = false then some (a + 2) else
      if a + 3 < ls.length ∨ whole = false then some (a + 3) else none
def bookAt (ls : List (List Nat)) (whole : Bool) : Option Nat := match bookR ls with
  | .bad a => some a
  | .ok _ _ fs => if 2 + fs.length < ls.length ∨ whole = false then some (2 + fs.length) else none
/-- lines fit to be read: their words are no too great trees -/
structure Fit (ls : List (List Nat)) : Prop where
  asc : ∀ l ∈ ls, Asc l
  len : ∀ l ∈ ls, l.length ≤ 900
  cnt : ls.length ≤ 2000
  good : ∀ l ∈ ls, ∀ x ∈ cut 32 l, GoodW x
end Km
set_option Elab.async false
set_option linter.all false
set_option maxRecDepth 100000
set_option maxHeartbeats 4000000
/-! reading texts, line by line -/
namespace Km
open PySem PySem.Spec PyProof.Rows L2
structure Tx (P : Program) (K : PySem.W.Frag) (mg : Str → Option Value) (w : World) : Prop where
  p : Pl P K mg w
  r : Rd P K mg w
  bf : ∃ C, mg "BadForm" = some (.ref C)
  dReadForm : DefG K mg "read_form" (top 50)
  dLinesOf : DefG K mg "lines_of" (top 51)
  dDigits : DefG K mg "digits_of" (top 52)
  L : ClsG K mg "Lines"
  nL : NoAttr K (He.ga K "Lines") "lines"
  nW : NoAttr K (He.ga K "Lines") "is_whole"
  nA : NoAttr K (He.ga K "Lines") "at"
  iL : IniG K mg "Lines" "Lines.__init__" (He.ga K "Lines") (inClass (top 53) 0)
  mWords : MetG K (He.ga K "Lines") "words" "Lines.words" (inClass (top 53) 1)
  mFail : MetG K (He.ga K "Lines") "fail" "Lines.fail" (inClass (top 53) 2)
  mTake : MetG K (He.ga K "Lines") "take" "Lines.take" (inClass (top 53) 3)
  mForm : MetG K (He.ga K "Lines") "form" "Lines.form" (inClass (top 53) 4)
  mEnd : MetG K (He.ga K "Lines") "end" "Lines.end" (inClass (top 53) 5)
  dTryBook : DefG K mg "try_book" (top 54)
  dBookLines : DefG K mg "book_lines" (top 55)
  dReadBook : DefG K mg "read_book" (top 56)
  dTryPlan : DefG K mg "try_plan" (top 57)
  dThingLines : DefG K mg "thing_lines" (top 58)
  dReadPlan : DefG K mg "read_plan" (top 59)
  gT : mg "BadText" = some (.ref (He.ga K "BadText"))
  eT : PySem.W.exmOne K (.ref (He.ga K "BadText")) (.ref (He.ga K "BadText")) = some true
  gB : mg "BadBook" = some (.ref (He.ga K "BadBook"))
  eB : PySem.W.exmOne K (.ref (He.ga K "BadBook")) (.ref (He.ga K "BadBook")) = some true
  xB : XfC K (He.ga K "BadBook")
  nB : PySem.W.findIn K (.ref (He.ga K "BadBook")) "part" = some none
  gP : mg "BadPlan" = some (.ref (He.ga K "BadPlan"))
  eP : PySem.W.exmOne K (.ref (He.ga K "BadPlan")) (.ref (He.ga K "BadPlan")) = some true
  xP : XfC K (He.ga K "BadPlan")
  nP : PySem.W.findIn K (.ref (He.ga K "BadPlan")) "part" = some none
section
variable {P : Program} {w : World} {K : PySem.W.Frag} {mg : Str → Option Value} {base : Heap}
/-! ### read_form -/
theorem scRF : FnScope ["text", "reader", "tree"] ["text"] (defScope (top 50)) := ⟨rfl, rfl, rfl, by decide +kernel, rfl, by decide +kernel, by decide +kernel⟩
def spRF (K : PySem.W.Frag) : Sp := fun vs H Q E => ∃ (l : List Nat), vs = [.str (SX.S l)] ∧ l.length ≤ 100000 ∧ GoodW l ∧ (∀ t, treeOf l = some t → ∀ v H', Same H H' → FormAt K H' t v → Q v H') ∧
  (treeOf l = none → ∀ d H', Same H H' → H d = none → H' d = some (.xd [("row", .non)]) → E (.ref (He.ga K "BadText")) (some d) H')
theorem ok_rf (T : Tx P K mg w) : CalX (L2N.CX P w) P w K mg base 29 "read_form" (spRF K) := by
  refine cal_of T.dReadForm scRF (fun _ _ _ _ _ _ us hl => match us, hl with | [_], _ => rfl) (fun vs H Q E ⟨l, e, _⟩ => by rw [e]; rfl) ?_
  rintro f cdv A outer s H vs Q E hr ⟨l, rfl, hl, hg, k1, k2⟩
  have nd := scRF.nd
  have R := T.r
  have F := R.f
  have B := F.B
  obtain ⟨q, fI, eT⟩ := R.eT
  obtain ⟨bfC, bf⟩ := T.bf
  refine ⟨_, pss_cons (ps_if (pt_not (pt_val (pe_callB call_isi (by rfl) B.isinstance_ (by decide +kernel) (pa_cons (pv 0) (pa_cons (pe_bltn (by rfl) B.str_ (by decide +kernel) (show RelV (.ty "str") _ from rfl)) pa_nil))))) pss_never pss_nil)
    (pss_cons (ps_set (i := 1) nd rfl (Or.inl rfl) (pe_kx (ok_r0 R) hr pass0 (by rfl) (pa_cons (pv 0) pa_nil)))
    (pss_cons (ps_set (i := 2) nd rfl (Or.inl rfl) (pe_mx (ok_r5 R 12 (by decide)) R.C.c hr (L2N.passes_call (L2N.takes_of rfl rfl rfl rfl) (fun _ _ _ _ h => h)) (pv 1) (pa_cons pe_int pa_nil)))
    (pss_cons (ps_if (pt_cmpR op_ne (pe_fld (pv 1) rfl) (pe_callB call_len (by rfl) B.len_ PySem.boot_len (pa_cons (pv 0) pa_nil)) (nomark _)) (pss_one (ps_raiseSupN rfl eT (room_rec hr) (L2N.takes_of rfl rfl rfl rfl) (pa_cons pe_non pa_nil) (by rfl))) pss_nil)
    (pss_one (ps_try_only rfl rfl ⟨rfl, by decide, .inl bf⟩ takes0 (fun W pn xe tk _ => pss_one (ps_ret (pe_kx (ok_form F) hr pass0 (by rfl) (pa_cons (pv 2) pa_nil)))) (fun a oe cls d pn _ _ => pss_never)))))), ?_⟩
  refine ⟨_, rfl, .str _, _, _, _, true, rfl, .ty "str", .base (.str _), kit_ty (by decide +kernel), true, rfl, iteF ⟨_, rfl, fun p dx hp hdx hne => ?_⟩⟩
  have s0 : Same H (upd (upd H dx (.own p)) p (.ins (He.ga K "Reader") dx [])) := fun b o e => by
    rw [upd_ne (ne_of_none e hp), upd_ne (ne_of_none e hdx)]
    exact e
  refine ⟨p, dx, l, rfl, upd_same, fun H1 s1 hp1 => ⟨rfl, ?_⟩⟩
  have s2 : Same H H1 := fun b o e => s1 b o (ne_of_none e hp) (s0 _ _ e)
  obtain ⟨dx1, hx1⟩ := hp1
  refine ⟨_, rfl, p, dx1, _, rfl, hx1, by rfl, p, l, 0, rfl, ⟨dx1, hx1⟩, hl, ?_, ?_⟩
  case refine_2 =>
    intro e d H2 s3 hd hx
    refine k2 ?_ d H2 (fun b o eb => s3 b o (ne_of_none eb hp) (s2 _ _ eb)) (Same.free s2 hd) hx
    unfold treeOf
    rw [show prD 12 l = none from e]
  intro t r e v H2 i s3 hp2 hi hdr hv
  have e : prD 12 l = some (t, r) := e
  have s4 : Same H H2 := fun b o eb => s3 b o (ne_of_none eb hp) (s2 _ _ eb)
  obtain ⟨dx2, hx2⟩ := hp2
  refine ⟨_, rfl, p, _, dx2, _, _, rfl, hx2, R.C.c, R.nS, rf_spot _ _, _, rfl, .str _, _, rfl, ⟨by rw [SX.S_len, sizeLine_eq]; omega, rfl⟩, rfl, _, rfl, ?_⟩
  by_cases hil : i = l.length
  · rw [show (!decide (V.int (i : Int) = V.int ((SX.S l).length : Int))) = false from by rw [SX.S_len, hil]; simp]
    have hr0 : r = [] := by rw [← hdr, hil, List.drop_length]
    subst hr0
    have hz := hg t e
    have hw := (prD_txt e).2.1
    refine iteF ⟨_, rfl, fun q dq hq hdq hnq => ?_⟩
    have s5 : Same H2 (upd (upd H2 dq (.own q)) q (.ins (He.ga K "Form") dq [])) := fun b o eb => by
      rw [upd_ne (ne_of_none eb hq), upd_ne (ne_of_none eb hdq)]
      exact eb
    refine ⟨q, dq, v, t, rfl, upd_same, hv.tups (Same.tups s5), hw, hz, fun H3 s6 hq3 => ⟨rfl, ?_⟩⟩
    have s7 : Same H2 H3 := fun b o eb => s6 b o (ne_of_none eb hq) (s5 _ _ eb)
    refine k1 t ?_ _ H3 (s4.trans s7) ⟨q, dq, v, rfl, hq3, hv.tups (Same.tups s7)⟩
    unfold treeOf
    rw [e]
    exact if_pos hz
  · rw [show (!decide (V.int (i : Int) = V.int ((SX.S l).length : Int))) = true from by rw [SX.S_len]; simp; omega]
    refine iteT ⟨_, rfl, fun d hd => k2 ?_ d _ (s4.trans (same_upd hd)) (Same.free s4 hd) upd_same⟩
    unfold treeOf
    rw [e]
    cases r with
    | nil =>
      exfalso
      have := congrArg List.length hdr
      rw [List.length_drop, List.length_nil] at this
      omega
    | cons c r => rfl
/-! ### digits_of -/
def wV (ws : List (List Nat)) : List V := ws.map fun x => V.str (SX.S x)
theorem wV_str (ws : List (List Nat)) : wV ws = (ws.map SX.S).map V.str := by rw [wV, List.map_map]; rfl
theorem scDg : FnScope ["words", "word"] ["words"] (defScope (top 52)) := ⟨rfl, rfl, rfl, by decide +kernel, rfl, by decide +kernel, by decide +kernel⟩
/-- the digits found, or None -/
def DgAt (H H' : Hp) (o : Option (List Nat)) (fv : V) : Prop := (o = none ∧ fv = .non) ∨ ∃ ns p, o = some ns ∧ fv = .ref p ∧ H p = none ∧ H' p = some (.lst (nV ns))
def spDg (K : PySem.W.Frag) : Sp := fun vs H Q _ => ∃ (a : Addr) (ws : List (List Nat)), vs = [.ref a] ∧ SqL K H a (wV ws) ∧ ws.length ≤ 3000 ∧ (∀ x ∈ ws, x.length ≤ 3000) ∧ (∀ fv H', Same H H' → DgAt H H' (digs ws) fv → Q fv H')
theorem dig_mem (c : Nat) : decide (c ∈ ("0123456789" : Str).cps.toList) = decide (48 ≤ c ∧ c ≤ 57) := by
  rw [show ("0123456789" : Str).cps.toList = [48, 49, 50, 51, 52, 53, 54, 55, 56, 57] from by decide +kernel]
  rw [Bool.eq_iff_iff]
  simp only [decide_eq_true_eq, List.mem_cons, List.not_mem_nil, or_false]
  omega
theorem ok_dg (T : Tx P K mg w) : CalX CX0 P w K mg base 1 "digits_of" (spDg K) := by
  refine cal_of T.dDigits scDg (fun _ _ _ _ _ _ us hl => match us, hl with | [_], _ => rfl) (fun vs H Q E ⟨a, ws, e, _⟩ => by rw [e]; rfl) ?_
  rintro f cdv A outer s H vs Q E hr ⟨a, ws, rfl, ha, hwl, hxl, k⟩
  have nd := scDg.nd
  have B := T.r.f.B
  refine ⟨_, pss_cons (ps_if (pt_not (pt_val (pe_callB (cr_all rfl) (by rfl) B.all_ (by decide +kernel) (pa_cons
      (pe_lc (own := [("word", 1)]) (by rfl) nd (pi_list (pv 0)) (blkOk_by (N := ["words", "word"]) (sc := defScope (top 52)) (by decide +kernel))
        (fun _ _ _ _ _ => pg_name (i := 1) nd rfl (Or.inl rfl)) (fun _ _ _ _ _ => pts_nil)
        (fun _ _ _ _ _ => pe_and (pe_cmpR op_eq (pe_callB (call_lenK K rfl) (by rfl) B.len_ PySem.boot_len (pa_cons (pv 1) pa_nil)) pe_int (nomark _)) (pe_one (pe_cmpR op_in_sign (pv 1) pe_str (by rfl))))) pa_nil)))) (pss_one (ps_ret pe_non)) pss_nil)
    (pss_one (ps_ret (pe_lc (own := [("word", 1)]) (by rfl) nd (pi_list (pv 0)) (blkOk_by (N := ["words", "word"]) (sc := defScope (top 52)) (by decide +kernel))
        (fun _ _ _ _ _ => pg_name (i := 1) nd rfl (Or.inl rfl)) (fun _ _ _ _ _ => pts_nil)
        (fun _ _ _ _ _ => pe_callTy call_int_str (by rfl) B.int_ (by decide +kernel) (pa_cons (pv 1) pa_nil))))), ?_⟩
  refine ⟨_, rfl, a, rfl, ⟨_, ha⟩, fun D1 hD1 => lc_listS hD1 ha ws (by simp [wV]) (by rw [sizeLine_eq]; omega) (fun x => some (.bl (dg1 x))) ?_ ?_⟩
  · intro i x y H' R Rz hx hy s1 _ ks
    rw [wV, List.getElem?_map, hy] at hx
    cases hx
    have hyl := hxl y (List.mem_of_getElem? hy)
    refine ⟨rfl, iteT (B := R H') ⟨_, rfl, .str (SX.S y), _, rfl, ⟨by rw [SX.S_len, sizeLine_eq]; omega, rfl⟩, rfl, _, rfl, ?_⟩⟩
    rw [SX.S_len]
    match y with
    | [] => exact iteF (ks _ _ rfl (Same.refl _))
    | [c] =>
      refine iteT ⟨_, rfl, c, _, rfl, rfl, ?_⟩
      rw [dig_mem]
      exact ks _ _ rfl (Same.refl _)
    | c :: d :: r =>
      rw [show decide (V.int ((c :: d :: r).length : Int) = V.int 1) = false from by simp; omega]
      exact iteF (ks _ _ rfl (Same.refl _))
  · intro H1 s1 hDq
    rw [List.filterMap_eq_map', show ws.map (fun x => V.bl (dg1 x)) = (ws.map dg1).map V.bl from by rw [List.map_map]; rfl] at hDq
    refine ⟨D1, _, rfl, SqL.of hDq, _, rfl, ?_⟩
    rw [List.all_map, show (id ∘ dg1) = dg1 from rfl]
    cases hall : ws.all dg1 with
    | false => exact iteT (k _ _ s1 (.inl ⟨by unfold digs; rw [hall]; rfl, rfl⟩))
    | true =>
      refine iteF ⟨_, rfl, a, rfl, ⟨_, s1.seq ha⟩, fun D2 hD2 => lc_listS hD2 (s1.seq ha) ws (by simp [wV]) (by rw [sizeLine_eq]; omega) (fun x => some (.int ((dgv x : Nat) : Int))) ?_ ?_⟩
      · intro i x y H' R Rz hx hy s2 _ ks
        rw [wV, List.getElem?_map, hy] at hx
        cases hx
        have hyd := List.all_eq_true.mp hall y (List.mem_of_getElem? hy)
        match y, hyd with
        | [c], hyd =>
          have hyd : 48 ≤ c ∧ c ≤ 57 := of_decide_eq_true hyd
          exact ⟨rfl, iteT (B := R H') ⟨_, rfl, _, _, rfl, int1 hyd, (by rw [SX.S_len]; show 1 ≤ 640; decide), ks _ _ rfl (Same.refl _)⟩⟩
      · intro H2 s2 hDq2
        rw [List.filterMap_eq_map'] at hDq2
        refine k _ H2 (s1.trans s2) (.inr ⟨ws.map dgv, D2, by unfold digs; rw [hall]; rfl, rfl, Same.free s1 hD2, ?_⟩)
        rw [hDq2, nV, List.map_map]
        rfl
/-! ### lines_of, Lines -/
def linesOf (l : List Nat) : List (List Nat) := (cut 10 l).dropLast
def lastOf (l : List Nat) : List Nat := (cut 10 l).getLast (cut_ne 10 l)
def wholeOf (l : List Nat) : Bool := decide (lastOf l = [])
theorem cut_last (l : List Nat) : cut 10 l = linesOf l ++ [lastOf l] := (List.dropLast_concat_getLast (cut_ne 10 l)).symm
theorem cutV_last (xs : List V) (v : V) : cutV (xs ++ [v]) none (some (-1)) = xs := by
  unfold cutV
  rw [HT.sIx_none, List.drop_zero, Nat.sub_zero]
  have : HT.sIx (xs ++ [v]).length (xs ++ [v]).length (some (-1)) = xs.length := by
    show (if (-1 : Int) < 0 then ((-1 : Int) + ((xs ++ [v]).length : Int)).toNat else min (-1 : Int).toNat (xs ++ [v]).length) = _
    rw [if_pos (by decide), List.length_append, List.length_singleton]
    omega
  rw [this]
  simp
theorem eq_empty (l : List Nat) : decide (V.str (SX.S l) = V.str "") = decide (l = []) := by
  rw [show ("" : Str) = SX.S [] from by decide +kernel]
  by_cases h : l = []
  · subst h; rw [decide_eq_true rfl, decide_eq_true rfl]
  · rw [decide_eq_false h, decide_eq_false]
    exact fun e => h (SX.S_inj (V.str.inj e))
theorem nlS : ("\n" : Str) = SX.S [10] := by decide +kernel
theorem spS : (" " : Str) = SX.S [32] := by decide +kernel
theorem scLO : FnScope ["text", "parts"] ["text"] (defScope (top 51)) := ⟨rfl, rfl, rfl, by decide +kernel, rfl, by decide +kernel, by decide +kernel⟩
def spLO : Sp := fun vs H Q _ => ∃ (l : List Nat), vs = [.str (SX.S l)] ∧ l.length ≤ 100000 ∧ ∀ t q H', Same H H' → H t = none → H q = none → H' t = some (.tup [.ref q, .bl (wholeOf l)]) → H' q = some (.lst (wV (linesOf l))) → Q (.ref t) H'
theorem ok_lo (T : Tx P K mg w) : CalX CX0 P w K mg base 1 "lines_of" spLO := by
  refine cal_of T.dLinesOf scLO (fun _ _ _ _ _ _ us hl => match us, hl with | [_], _ => rfl) (fun vs H Q E ⟨l, e, _⟩ => by rw [e]; rfl) ?_
  rintro f cdv A outer s H vs Q E hr ⟨l, rfl, hl, k⟩
  have nd := scLO.nd
  have B := T.r.f.B
  refine ⟨_, pss_cons (ps_if (pt_not (pt_val (pe_callB call_isi (by rfl) B.isinstance_ (by decide +kernel) (pa_cons (pv 0) (pa_cons (pe_bltn (by rfl) B.str_ (by decide +kernel) (show RelV (.ty "str") _ from rfl)) pa_nil))))) pss_never pss_nil)
    (pss_cons (ps_set (i := 1) nd rfl (Or.inl rfl) (pe_split (pv 0) pe_str))
    (pss_one (ps_ret (pe_tup (pa_cons (pe_slice sl_list (pv 1) po_none (po_some (pe_un un_neg pe_int))) (pa_cons (pe_cmpR op_eq (pe_ix ix_list (pv 1) (pe_un un_neg pe_int) (fun _ _ => rfl)) pe_str (nomark _)) pa_nil)))))), ?_⟩
  refine ⟨_, rfl, .str _, _, _, _, true, rfl, .ty "str", .base (.str _), kit_ty (by decide +kernel), true, rfl, iteF ⟨_, rfl, ⟨_, rfl⟩, SX.S l, _, rfl, rfl, by decide +kernel, by rw [SX.S_len, sizeLine_eq]; omega, fun p hp => ?_⟩⟩
  have e1 : (Txt.split (SX.S l) ("\n" : Str)).map V.str = wV (linesOf l) ++ [.str (SX.S (lastOf l))] := by
    rw [nlS, split_cut _ _ (by decide), cut_last l, List.map_append, List.map_append, wV, List.map_map]
    rfl
  rw [e1]
  have s1 := same_upd (o := .lst (wV (linesOf l) ++ [.str (SX.S (lastOf l))])) hp
  refine ⟨_, rfl, _, rfl, _, rfl, p, _, rfl, SqL.of upd_same, fun q hq => ?_⟩
  have s2 := same_upd (o := .lst (cutV (wV (linesOf l) ++ [.str (SX.S (lastOf l))]) none (some (-1)))) hq
  refine ⟨_, rfl, _, rfl, p, _, _, _, rfl, rfl, SqL.of (s2 _ _ upd_same), atI_last _ _, rfl, (by show 2 ≤ sizeLine; decide), fun t ht => ?_⟩
  have s3 := same_upd (o := .tup [.ref q, .bl (decide (V.str (SX.S (lastOf l)) = V.str ""))]) ht
  refine k t q _ (s1.trans (s2.trans s3)) (Same.free (s1.trans s2) ht) (Same.free s1 hq) ?_ ?_
  · rw [upd_same, eq_empty]
    rfl
  · refine s3 _ _ ?_
    rw [upd_same, cutV_last]
def lf (a : Addr) (wh : Bool) (i : Nat) : List (Str × V) := [("lines", .ref a), ("is_whole", .bl wh), ("at", .int (i : Int))]
theorem lf_put (a : Addr) (wh : Bool) (i : Nat) : putF "at" (.int ((i : Int) + 1)) (lf a wh i) = lf a wh (i + 1) := by
  show (if ("lines" : Str) = "at" then (("lines" : Str), V.int ((i : Int) + 1)) :: _ else (("lines" : Str), V.ref a) :: (if ("is_whole" : Str) = "at" then (("is_whole" : Str), V.int ((i : Int) + 1)) :: _ else (("is_whole" : Str), V.bl wh) :: (if ("at" : Str) = "at" then [(("at" : Str), V.int ((i : Int) + 1))] else _))) = _
  rw [if_neg (by decide +kernel), if_neg (by decide +kernel), if_pos rfl]
  rfl
theorem lf_lines (a : Addr) (wh : Bool) (i : Nat) : (lf a wh i).lookup ("lines" : Str) = some (.ref a) := rfl
theorem lf_whole (a : Addr) (wh : Bool) (i : Nat) : (lf a wh i).lookup ("is_whole" : Str) = some (.bl wh) := rfl
theorem lf_at (a : Addr) (wh : Bool) (i : Nat) : (lf a wh i).lookup ("at" : Str) = some (.int (i : Int)) := rfl
/-- the lines stand at p, the i-th is next -/
def LnAt (K : PySem.W.Frag) (H : Hp) (p : Addr) (ls : List (List Nat)) (wh : Bool) (i : Nat) : Prop := ∃ dx a, H p = some (.ins (He.ga K "Lines") dx (lf a wh i)) ∧ H a = some (.lst (wV ls))
theorem LnAt.same {H H' : Hp} {p : Addr} {ls : List (List Nat)} {wh : Bool} {i : Nat} (h : LnAt K H p ls wh i) (s : Same H H') : LnAt K H' p ls wh i := by
  obtain ⟨dx, a, h1, h2⟩ := h
  exact ⟨dx, a, s _ _ h1, s _ _ h2⟩
theorem scL0 : FnScope ["self", "text"] ["self", "text"] (defScope (inClass (top 53) 0)) := ⟨rfl, rfl, rfl, by decide +kernel, rfl, by decide +kernel, by decide +kernel⟩
def spL0 (K : PySem.W.Frag) : Sp := fun vs H Q _ => ∃ (p dx : Addr) (l : List Nat), vs = [.ref p, .str (SX.S l)] ∧ H p = some (.ins (He.ga K "Lines") dx []) ∧ l.length ≤ 100000 ∧ ∀ H', SameBut p H H' → LnAt K H' p (linesOf l) (wholeOf l) 0 → Q .non H'
theorem ok_l0 (T : Tx P K mg w) : MakX CX0 P w K mg base 2 "Lines" (He.ga K "Lines") (spL0 K) := by
  refine mak_of T.iL scL0 (fun _ _ _ _ _ _ us hl => match us, hl with | [_, _], _ => rfl) (fun vs H Q E ⟨p, dx, l, e, _⟩ => by rw [e]; rfl) ?_
  rintro f cdv A outer s H vs Q E hr ⟨p, dx, l, rfl, hp, hl, k⟩
  refine ⟨_, pss_cons (ps_asg (pe_cx (ok_lo T) hr pass0 (by rfl) (pa_cons (pv 1) pa_nil)) (pg_tup rfl (pgs_cons (pg_fld (pv 0)) (pgs_cons (pg_fld (pv 0)) pgs_nil)))) (pss_one (ps_fld (pv 0) pe_int rfl)), ?_⟩
  refine ⟨_, rfl, l, rfl, hl, fun t q H1 s1 ht hq h1 h2 => ?_⟩
  have hpt : t ≠ p := fun e => by rw [e, hp] at ht; cases ht
  have hpq : q ≠ p := fun e => by rw [e, hp] at hq; cases hq
  refine ⟨t, _, rfl, .inl (.inl h1), rfl, _, _, rfl, _, rfl, p, _, dx, [], rfl, s1 _ _ hp, T.L.c, T.nL, (by show 0 < 1000; decide), ?_⟩
  refine ⟨_, _, rfl, _, rfl, p, _, dx, _, rfl, upd_same, T.L.c, T.nW, (by show 1 < 1000; decide), rfl, ?_⟩
  refine ⟨_, rfl, p, _, dx, _, rfl, upd_same, T.L.c, T.nA, (by show 2 < 1000; decide), ?_⟩
  refine k _ (but_upd (but_upd (but_upd (Same.but s1)))) ⟨dx, q, upd_same, ?_⟩
  rw [upd_ne hpq, upd_ne hpq, upd_ne hpq]
  exact h2
def wordsAt (ls : List (List Nat)) (i : Nat) : List (List Nat) := match ls[i]? with
  | some l => cut 32 l
  | none => []
theorem Fit.wlen {ls : List (List Nat)} (F : Fit ls) (i : Nat) : (wordsAt ls i).length ≤ 2001 ∧ ∀ x ∈ wordsAt ls i, x.length ≤ 2000 ∧ Asc x ∧ GoodW x := by
  unfold wordsAt
  cases e : ls[i]? with
  | none => exact ⟨by simp, fun x hx => by cases hx⟩
  | some l =>
    have hm := List.mem_of_getElem? e
    refine ⟨?_, fun x hx => ⟨Nat.le_trans (cut_len hx) (Nat.le_trans (F.len l hm) (by decide)), (F.asc l hm).cut hx, F.good l hm x hx⟩⟩
    have h1 := cut_count (c := 32) l
    have h2 := F.len l hm
    show (cut 32 l).length ≤ 2001
    omega
theorem okS_asc {l : List Nat} (h : Asc l) : okS (SX.S l) = true := by
  unfold okS
  rw [← Array.all_toList]
  exact List.all_eq_true.mpr fun c hc => decide_eq_true (Nat.lt_trans (h c hc) (by decide))
theorem okS_all {ws : List (List Nat)} (h : ∀ x ∈ ws, Asc x) : (ws.map SX.S).all okS = true := by
  rw [List.all_map]
  exact List.all_eq_true.mpr fun x hx => okS_asc (h x hx)
theorem map_S_inj {a b : List (List Nat)} : decide (a.map SX.S = b.map SX.S) = decide (a = b) := by
  by_cases h : a = b
  · subst h; rw [decide_eq_true rfl, decide_eq_true rfl]
  · rw [decide_eq_false h, decide_eq_false]
    intro e
    apply h
    have := congrArg (List.map TL.tl) e
    rwa [SX.map_S_tl, SX.map_S_tl] at this
theorem scL1 : FnScope ["self"] ["self"] (defScope (inClass (top 53) 1)) := ⟨rfl, rfl, rfl, by decide +kernel, rfl, by decide +kernel, by decide +kernel⟩
def spL1 (K : PySem.W.Frag) : Sp := fun vs H Q _ => ∃ (p : Addr) (ls : List (List Nat)) (wh : Bool) (i : Nat), vs = [.ref p] ∧ LnAt K H p ls wh i ∧ Fit ls ∧ ∀ q H', Same H H' → H q = none → H' q = some (.lst (wV (wordsAt ls i))) → Q (.ref q) H'
theorem ok_l1 (T : Tx P K mg w) : MetX CX0 P w K mg base 1 (He.ga K "Lines") "words" (spL1 K) := by
  refine met_of T.mWords scL1 (fun _ _ _ _ _ _ us hl => match us, hl with | [_], _ => rfl) (fun vs H Q E ⟨p, ls, wh, i, e, _⟩ => by rw [e]; rfl) ?_
  rintro f cdv A outer s H vs Q E hr ⟨p, ls, wh, i, rfl, ⟨dx, a, h1, h2⟩, F, k⟩
  have B := T.r.f.B
  refine ⟨_, pss_one (ps_ret (pe_ifExp (pt_cmpR op_lt (pe_fld (pv 0) rfl) (pe_callB call_len (by rfl) B.len_ PySem.boot_len (pa_cons (pe_fld (pv 0) rfl) pa_nil)) (nomark _)) (pe_split (pe_ix ix_list (pe_fld (pv 0) rfl) (pe_fld (pv 0) rfl) (fun _ _ => rfl)) pe_str) (pe_lst pa_nil))), ?_⟩
  refine ⟨_, rfl, p, _, dx, _, _, rfl, h1, T.L.c, T.nA, lf_at _ _ _, _, rfl, p, _, dx, _, _, rfl, h1, T.L.c, T.nL, lf_lines _ _ _, .ref a, _, rfl, .inl ⟨_, SqL.of h2, rfl⟩, _, _, rfl, rfl, _, rfl, ?_⟩
  rw [show (wV ls).length = ls.length from by simp [wV]]
  by_cases hi : i < ls.length
  · rw [show decide ((i : Int) < (ls.length : Int)) = true from by simp; omega]
    have e : ls[i]? = some ls[i] := List.getElem?_eq_getElem hi
    have hm := F.len _ (List.mem_of_getElem? e)
    refine iteT ⟨_, rfl, p, _, dx, _, _, rfl, h1, T.L.c, T.nL, lf_lines _ _ _, _, rfl, p, _, dx, _, _, rfl, h1, T.L.c, T.nA, lf_at _ _ _, a, _, (i : Int), _, rfl, rfl, SqL.of h2, atI_nat (j := i) (by rw [wV, List.getElem?_map, e]; rfl), ⟨_, rfl⟩, _, _, rfl, rfl, by decide +kernel, by rw [SX.S_len, sizeLine_eq]; omega, fun q hq => ?_⟩
    rw [spS, split_cut _ _ (by decide)]
    refine k q _ (same_upd hq) hq ?_
    rw [upd_same, wordsAt, e, wV_str]
  · rw [show decide ((i : Int) < (ls.length : Int)) = false from by simp; omega]
    have e : ls[i]? = none := List.getElem?_eq_none (by omega)
    refine iteF ⟨Nat.zero_le _, fun q hq => k q _ (same_upd hq) hq ?_⟩
    rw [upd_same, wordsAt, e]
    rfl
theorem scL2 : FnScope ["self"] ["self"] (defScope (inClass (top 53) 2)) := ⟨rfl, rfl, rfl, by decide +kernel, rfl, by decide +kernel, by decide +kernel⟩
/-- BadText(i) flies -/
def BadAt (K : PySem.W.Frag) (H : Hp) (p : Addr) (i : Nat) (E : XK) : Prop := ∀ d H', SameBut p H H' → H d = none → H' d = some (.xd [("row", .int (i : Int))]) → E (.ref (He.ga K "BadText")) (some d) H'
def spL2 (K : PySem.W.Frag) : Sp := fun vs H Q E => ∃ (p : Addr) (ls : List (List Nat)) (wh : Bool) (i : Nat), vs = [.ref p] ∧ LnAt K H p ls wh i ∧ BadAt K H p i E
theorem ok_l2 (T : Tx P K mg w) : MetX (L2.CX P w) P w K mg base 1 (He.ga K "Lines") "fail" (spL2 K) := by
  refine met_of T.mFail scL2 (fun _ _ _ _ _ _ us hl => match us, hl with | [_], _ => rfl) (fun vs H Q E ⟨p, ls, wh, i, e, _⟩ => by rw [e]; rfl) ?_
  rintro f cdv A outer s H vs Q E hr ⟨p, ls, wh, i, rfl, ⟨dx, a, h1, h2⟩, k⟩
  obtain ⟨q, fI, eT⟩ := T.r.eT
  refine ⟨_, pss_one (ps_raiseSup rfl eT (room_rec hr) (takes_of rfl rfl rfl rfl) (pa_cons (pe_fld (pv 0) rfl) pa_nil) (by rfl)), ?_⟩
  exact ⟨_, rfl, p, _, dx, _, _, rfl, h1, T.L.c, T.nA, lf_at _ _ _, _, rfl, fun d hd => k d _ (Same.but (same_upd hd)) hd upd_same⟩
theorem BadAt.pre {H H1 : Hp} {p : Addr} {i : Nat} {E : XK} {o : HO} (h : BadAt K H p i E) (s : SameBut p H H1) (hp : H1 p = some o) : BadAt K H1 p i E := fun d H' s' hd hx => h d H' (s.trans s') (free_but s hp hd) hx
/-! ### take -/
theorem scL3 : FnScope ["self", "word", "many", "words", "found"] ["self", "word", "many"] (defScope (inClass (top 53) 3)) := ⟨rfl, rfl, rfl, by decide +kernel, rfl, by decide +kernel, by decide +kernel⟩
def manyV : Bool → V
  | true => .int 1
  | false => .non
def takeM (k : List Nat) (one : Bool) (l : Option (List Nat)) : Option (List Nat) := match takeL k l with
  | some ns => if one = true ∧ ¬ ns.length = 1 then none else some ns
  | none => none
def spL3 (K : PySem.W.Frag) : Sp := fun vs H Q E => ∃ (p : Addr) (kw : List Nat) (one : Bool) (ls : List (List Nat)) (wh : Bool) (i : Nat), vs = [.ref p, .str (SX.S kw), manyV one] ∧ LnAt K H p ls wh i ∧ Fit ls ∧ Asc kw ∧
  (takeM kw one ls[i]? = none → BadAt K H p i E) ∧ (∀ ns, takeM kw one ls[i]? = some ns → ∀ q H', SameBut p H H' → H q = none → LnAt K H' p ls wh (i + 1) → H' q = some (.lst (nV ns)) → Q (.ref q) H')
theorem takeL_words (kw : List Nat) (ls : List (List Nat)) (i : Nat) : takeL kw ls[i]? = if (wordsAt ls i).take 1 = [kw] then digs ((wordsAt ls i).drop 1) else none := by
  unfold wordsAt
  cases e : ls[i]? with
  | none => rfl
  | some l =>
    show takeW kw (cut 32 l) = if (cut 32 l).take 1 = [kw] then digs ((cut 32 l).drop 1) else none
    cases cut 32 l with
    | nil => rfl
    | cons h ws =>
      show (if h = kw then digs ws else none) = if [h] = [kw] then digs ws else none
      by_cases hh : h = kw
      · rw [if_pos hh, if_pos (by rw [hh])]
      · rw [if_neg hh, if_neg (by simpa using hh)]
theorem cutVL_from (xs : List V) (k : Nat) : cutV xs (some (k : Int)) none = xs.drop k := by
  by_cases h : k ≤ xs.length
  · exact cutV_from xs k h
  · unfold cutV
    rw [HT.sIx_nat, HT.sIx_none, Nat.min_eq_right (by omega), List.drop_length, List.drop_of_length_le (by omega)]
    simp
theorem cutVL_to (xs : List V) (k : Nat) : cutV xs none (some (k : Int)) = xs.take k := by
  by_cases h : k ≤ xs.length
  · exact cutV_to xs k h
  · unfold cutV
    rw [HT.sIx_nat, HT.sIx_none, Nat.min_eq_right (by omega), List.drop_zero, Nat.sub_zero, List.take_length, List.take_of_length_le (by omega)]
theorem wV_drop (ws : List (List Nat)) (k : Nat) : (wV ws).drop k = wV (ws.drop k) := by unfold wV; rw [List.map_drop]
theorem wV_take (ws : List (List Nat)) (k : Nat) : (wV ws).take k = wV (ws.take k) := by unfold wV; rw [List.map_take]
theorem digs_len {ws : List (List Nat)} {ns : List Nat} (h : digs ws = some ns) : ns.length = ws.length := by
  unfold digs at h
  split at h
  · cases h; simp
  · cases h
theorem ok_l3 (T : Tx P K mg w) : MetX (L2.CX P w) P w K mg base 2 (He.ga K "Lines") "take" (spL3 K) := by
  refine met_of T.mTake scL3 (fun _ _ _ _ _ _ us hl => match us, hl with | [_, _, _], _ => rfl) (fun vs H Q E ⟨p, kw, one, ls, wh, i, e, _⟩ => by rw [e]; rfl) ?_
  rintro f cdv A outer s H vs Q E hr ⟨p, kw, one, ls, wh, i, rfl, hln, F, hkw, k1, k2⟩
  have B := T.r.f.B
  have nd := scL3.nd
  refine ⟨_, pss_cons (ps_set (i := 3) nd rfl (Or.inl rfl) (pe_mx0 (ok_l1 T) T.L.c hr pass0 (pv 0)))
    (pss_cons (ps_set (i := 4) nd rfl (Or.inl rfl) (pe_cx (ok_dg T) hr pass0 (by rfl) (pa_cons (pe_slice sl_list (pv 3) (po_some pe_int) po_none) pa_nil)))
    (pss_cons (ps_if (PW.pt (pw_or (pt_cmpR (op_neW hr.units) (pe_slice sl_list (pv 3) po_none (po_some pe_int)) (pe_lst (pa_cons (pv 1) pa_nil)) (nomark _))
      (pw_or (pt_cmpR op_isN1 (pv 4) pe_non (nomark _)) (pw_or1 (PW.pt (pw_and (pt_cmpR op_notN1 (pv 2) pe_non (nomark _)) (pw_and1 (pt_cmpR op_ne (pe_callB call_len (by rfl) B.len_ PySem.boot_len (pa_cons (pv 4) pa_nil)) (pv 2) (nomark _)))))))))
      (pss_one (ps_expr (pe_mx0 (ok_l2 T) T.L.c hr (passes_call (takes_of rfl rfl rfl rfl) (fun _ _ _ _ h => h)) (pv 0)))) pss_nil)
    (pss_cons (ps_fldaug (pv 0) pe_int in_add) (pss_one (ps_ret (pv 4)))))), ?_⟩
  obtain ⟨dx, a, h1, h2⟩ := id hln
  obtain ⟨wl, wx⟩ := F.wlen i
  refine ⟨_, rfl, p, dx, _, rfl, h1, by rfl, p, ls, wh, i, rfl, hln, F, fun q H1 s1 hq hqw => ?_⟩
  refine ⟨_, rfl, _, rfl, q, _, rfl, SqL.of hqw, fun q2 hq2 => ?_⟩
  have s2 := same_upd (o := .lst (cutV (wV (wordsAt ls i)) (some 1) none)) hq2
  have e2 : cutV (wV (wordsAt ls i)) (some 1) none = wV ((wordsAt ls i).drop 1) := by
    rw [show (1 : Int) = ((1 : Nat) : Int) from rfl, cutVL_from, wV_drop]
  have e3 : cutV (wV (wordsAt ls i)) none (some 1) = wV ((wordsAt ls i).take 1) := by
    rw [show (1 : Int) = ((1 : Nat) : Int) from rfl, cutVL_to, wV_take]
  rw [e2] at s2 ⊢
  have g1 : SqL K (upd H1 q2 (.lst (wV ((wordsAt ls i).drop 1)))) q2 (wV ((wordsAt ls i).drop 1)) := SqL.of upd_same
  have tl := takeL_words kw ls i
  refine ⟨q2, _, rfl, g1, by rw [List.length_drop]; omega, fun x hx => by have := (wx x (List.mem_of_mem_drop hx)).1; omega, fun fv H2 s3 hfv => ?_⟩
  have s4 := (s1.trans s2).trans s3
  have gq := s3 _ _ (s2 _ _ hqw)
  refine ⟨_, rfl, _, rfl, q, _, rfl, SqL.of gq, fun q3 hq3 => ⟨_, rfl, (by show 1 ≤ sizeLine; decide), fun q4 hq4 => ?_⟩⟩
  rw [e3] at hq4 ⊢
  have s5 := same_upd (o := .lst (wV ((wordsAt ls i).take 1))) hq3
  have s6 := same_upd (o := .lst [.str (SX.S kw)]) hq4
  have s7 := s4.trans (s5.trans s6)
  have g3 : SqL K (upd (upd H2 q3 (.lst (wV ((wordsAt ls i).take 1)))) q4 (.lst [.str (SX.S kw)])) q3 (((wordsAt ls i).take 1).map SX.S |>.map V.str) := by
    rw [← wV_str]
    exact SqL.of (s6 _ _ upd_same)
  have g4 : SqL K (upd (upd H2 q3 (.lst (wV ((wordsAt ls i).take 1)))) q4 (.lst [.str (SX.S kw)])) q4 (([kw].map SX.S).map V.str) := SqL.of upd_same
  refine ⟨q3, q4, _, _, rfl, rfl, g3, g4, okS_all fun x hx => (wx x (List.mem_of_mem_take hx)).2.1, okS_all fun x hx => by rw [List.mem_singleton.mp hx]; exact hkw, _, rfl, ?_⟩
  rw [map_S_inj]
  have s8 : Same H2 (upd (upd H2 q3 (.lst (wV ((wordsAt ls i).take 1)))) q4 (.lst [.str (SX.S kw)])) := s5.trans s6
  generalize upd (upd H2 q3 (.lst (wV ((wordsAt ls i).take 1)))) q4 (.lst [.str (SX.S kw)]) = H3 at s7 s8
  have hl3 := hln.same s7
  obtain ⟨dx3, a3, x1, x2⟩ := id hl3
  have bad : takeM kw one ls[i]? = none → BadAt K H3 p i E := fun e => (k1 e).pre (Same.but s7) x1
  by_cases hw : (wordsAt ls i).take 1 = [kw]
  case neg =>
    rw [show (!decide ((wordsAt ls i).take 1 = [kw])) = true from by rw [decide_eq_false hw]; rfl]
    refine iteT ⟨_, rfl, p, dx3, _, rfl, x1, by rfl, p, ls, wh, i, rfl, hl3, bad ?_⟩
    unfold takeM
    rw [tl, if_neg hw]
  rw [show (!decide ((wordsAt ls i).take 1 = [kw])) = false from by rw [decide_eq_true hw]; rfl]
  rw [if_pos hw] at tl
  rcases hfv with ⟨e, rfl⟩ | ⟨ns, r, e, rfl, hr0, hr2⟩
  · refine iteF ⟨_, rfl, rfl, _, rfl, iteT ⟨_, rfl, p, dx3, _, rfl, x1, by rfl, p, ls, wh, i, rfl, hl3, bad ?_⟩⟩
    unfold takeM
    rw [tl, e]
  have hr3 := s8 _ _ hr2
  have hrp : r ≠ p := fun e => by rw [e, x1] at hr3; cases hr3
  refine iteF ⟨_, rfl, rfl, _, rfl, iteF ?_⟩
  have done : takeM kw one ls[i]? = some ns → Q (.ref r) (upd H3 p (.ins (He.ga K "Lines") dx3 (putF "at" (.int ((i : Int) + 1)) (lf a3 wh i)))) := fun e => by
    refine k2 ns e r _ (but_upd (Same.but s7)) (Same.free (s1.trans s2) hr0) ⟨dx3, a3, by rw [upd_same, ← lf_put], ?_⟩ (by rw [upd_ne hrp]; exact hr3)
    rw [upd_ne (fun e => by rw [e, x1] at x2; cases x2)]
    exact x2
  cases one with
  | false =>
    refine ⟨_, rfl, rfl, _, rfl, iteF ?_⟩
    refine ⟨_, rfl, p, _, dx3, _, _, rfl, x1, T.L.c, T.nA, lf_at _ _ _, _, _, rfl, rfl, dx3, _, x1, (by show 3 < 1000; decide), _, rfl, done ?_⟩
    unfold takeM
    rw [tl, e]
    rfl
  | true =>
    refine ⟨_, rfl, rfl, _, rfl, iteT ⟨_, rfl, .ref r, _, rfl, .inl ⟨_, SqL.of hr3, rfl⟩, _, rfl, rfl, _, rfl, ?_⟩⟩
    rw [show (nV ns).length = ns.length from by simp [nV]]
    by_cases h1 : ns.length = 1
    · rw [show (!decide (V.int (ns.length : Int) = manyV true)) = false from by rw [h1]; rfl]
      refine iteF ⟨_, rfl, p, _, dx3, _, _, rfl, x1, T.L.c, T.nA, lf_at _ _ _, _, _, rfl, rfl, dx3, _, x1, (by show 3 < 1000; decide), _, rfl, done ?_⟩
      unfold takeM
      rw [tl, e]
      exact if_neg fun h => h.2 h1
    · rw [show (!decide (V.int (ns.length : Int) = manyV true)) = true from by
        rw [decide_eq_false]
        · rfl
        · intro h
          have := V.int.inj h
          omega]
      refine iteT ⟨_, rfl, p, dx3, _, rfl, x1, by rfl, p, ls, wh, i, rfl, hl3, bad ?_⟩
      unfold takeM
      rw [tl, e]
      exact if_pos ⟨rfl, h1⟩
/-! ### form, end -/
theorem scL4 : FnScope ["self", "text"] ["self", "text"] (defScope (inClass (top 53) 4)) := ⟨rfl, rfl, rfl, by decide +kernel, rfl, by decide +kernel, by decide +kernel⟩
def spL4 (K : PySem.W.Frag) : Sp := fun vs H Q E => ∃ (p : Addr) (x : List Nat) (ls : List (List Nat)) (wh : Bool) (i : Nat), vs = [.ref p, .str (SX.S x)] ∧ LnAt K H p ls wh i ∧ x.length ≤ 2000 ∧ GoodW x ∧
  (∀ t, treeOf x = some t → ∀ v H', Same H H' → FormAt K H' t v → Q v H') ∧ (treeOf x = none → BadAt K H p i E)
theorem ok_l4 (T : Tx P K mg w) : MetX (L2.CX P w) P w K mg base 30 (He.ga K "Lines") "form" (spL4 K) := by
  refine met_of T.mForm scL4 (fun _ _ _ _ _ _ us hl => match us, hl with | [_, _], _ => rfl) (fun vs H Q E ⟨p, x, ls, wh, i, e, _⟩ => by rw [e]; rfl) ?_
  rintro f cdv A outer s H vs Q E hr ⟨p, x, ls, wh, i, rfl, hln, hxl, hxg, k1, k2⟩
  obtain ⟨q, fI, eT⟩ := T.r.eT
  refine ⟨_, pss_one (L2H.ps_try_onlyX (ts := fun _ _ _ => tRaiseSup (He.ga K "BadText") "row" (fun cls d _ H => E cls d H) (tCons (tFld K (tVar 0) "at") tNil)) rfl rfl ⟨rfl, by decide, .inl T.gT⟩ (L2H.passesAt_of rfl) (takes_of rfl rfl rfl rfl) (fun W pn xe tkN tkP hp => pss_one (ps_ret (pe_cxS (E := WE W) (ok_rf T) hr (fun σ => L2N.passAt tkN σ) (by rfl) (pa_cons (pv 1) pa_nil)))) ?suite), ?body⟩
  case suite => exact fun a oe cls d pn hz hf tk hot => pss_one (ps_raiseSupH hot eT (by have := room_rec hr; exact this) tk (pa_cons (pe_fld (pv 0) rfl) pa_nil) (by rfl))
  obtain ⟨dx, a, h1, h2⟩ := id hln
  refine ⟨_, rfl, x, rfl, by omega, hxg, fun t e v H' s1 hf => k1 t e v H' s1 hf, fun e d H' s1 hd hx => ⟨true, T.eT, fun _ a' ha' => ?_, fun h => Bool.noConfusion h⟩⟩
  refine ⟨_, rfl, p, _, dx, _, _, rfl, s1 _ _ h1, T.L.c, T.nA, lf_at _ _ _, _, rfl, fun d' hd' => k2 e d' _ (Same.but (s1.trans (same_upd hd'))) (Same.free s1 hd') upd_same⟩
theorem scL5 : FnScope ["self"] ["self"] (defScope (inClass (top 53) 5)) := ⟨rfl, rfl, rfl, by decide +kernel, rfl, by decide +kernel, by decide +kernel⟩
def spL5 (K : PySem.W.Frag) : Sp := fun vs H Q E => ∃ (p : Addr) (ls : List (List Nat)) (wh : Bool) (i : Nat), vs = [.ref p] ∧ LnAt K H p ls wh i ∧ (¬ (i < ls.length ∨ wh = false) → Q .non H) ∧ (i < ls.length ∨ wh = false → BadAt K H p i E)
theorem ok_l5 (T : Tx P K mg w) : MetX (L2.CX P w) P w K mg base 2 (He.ga K "Lines") "end" (spL5 K) := by
  refine met_of T.mEnd scL5 (fun _ _ _ _ _ _ us hl => match us, hl with | [_], _ => rfl) (fun vs H Q E ⟨p, ls, wh, i, e, _⟩ => by rw [e]; rfl) ?_
  rintro f cdv A outer s H vs Q E hr ⟨p, ls, wh, i, rfl, hln, k1, k2⟩
  have B := T.r.f.B
  obtain ⟨dx, a, h1, h2⟩ := id hln
  refine ⟨_, pss_one (ps_if (PW.pt (pw_or (pt_cmpR op_lt (pe_fld (pv 0) rfl) (pe_callB call_len (by rfl) B.len_ PySem.boot_len (pa_cons (pe_fld (pv 0) rfl) pa_nil)) (nomark _)) (pw_or1 (pt_not (pt_val (pe_fld (pv 0) rfl))))))
    (pss_one (ps_expr (pe_mx0 (ok_l2 T) T.L.c hr (passes_call (takes_of rfl rfl rfl rfl) (fun _ _ _ _ h => h)) (pv 0)))) pss_nil), ?_⟩
  refine ⟨_, rfl, p, _, dx, _, _, rfl, h1, T.L.c, T.nA, lf_at _ _ _, _, rfl, p, _, dx, _, _, rfl, h1, T.L.c, T.nL, lf_lines _ _ _, .ref a, _, rfl, .inl ⟨_, SqL.of h2, rfl⟩, _, _, rfl, rfl, _, rfl, ?_⟩
  rw [show (wV ls).length = ls.length from by simp [wV]]
  by_cases hi : i < ls.length
  · rw [show decide ((i : Int) < (ls.length : Int)) = true from by simp; omega]
    exact iteT (iteT ⟨_, rfl, p, dx, _, rfl, h1, by rfl, p, ls, wh, i, rfl, hln, k2 (.inl hi)⟩)
  · rw [show decide ((i : Int) < (ls.length : Int)) = false from by simp; omega]
    refine iteF ⟨_, rfl, p, _, dx, _, _, rfl, h1, T.L.c, T.nW, lf_whole _ _ _, _, rfl, ?_⟩
    cases wh with
    | false => exact iteT ⟨_, rfl, p, dx, _, rfl, h1, by rfl, p, ls, false, i, rfl, hln, k2 (.inr rfl)⟩
    | true => exact iteF (k1 (by rintro (h | h); exact hi h; cases h))
/-! ### try_book, try_plan -/
theorem scTB : FnScope ["base", "settings", "functions", "error"] ["base", "settings", "functions"] (defScope (top 54)) := ⟨rfl, rfl, rfl, by decide +kernel, rfl, by decide +kernel, by decide +kernel⟩
def spTB (K : PySem.W.Frag) : Sp := fun vs H Q _ => ∃ (v : V) (b s : Nat) (fs : List (List Tr)), vs = [.int (b : Int), .int (s : Int), v] ∧ FunsAt K H fs v ∧ SzF fs ∧ (∀ bs ∈ fs, bs.length < 5000) ∧ fs.length < 1000 ∧
  (bookBad b s fs = none → ∀ u H', Same H H' → BookAt K H' b s fs u → Q u H') ∧ (∀ z, bookBad b s fs = some z → ∀ H', Same H H' → Q (.str z.str) H')
theorem ok_tb (T : Tx P K mg w) : CalX CX0 P w K mg base 21 "try_book" (spTB K) := by
  refine cal_of T.dTryBook scTB (fun _ _ _ _ _ _ us hl => match us, hl with | [_, _, _], _ => rfl) (fun vs H Q E ⟨v, b, s, fs, e, _⟩ => by rw [e]; rfl) ?_
  rintro f cdv A outer s H vs Q E hr ⟨v, b, st, fs, rfl, hf, hz, hbl, hfl, k1, k2⟩
  have nd := scTB.nd
  refine ⟨_, pss_one (ps_try_as (i := 3) rfl rfl nd rfl rfl ⟨rfl, by decide, .inl T.gB⟩ takes0 (fun W pn xe tk _ => pss_one (ps_ret (pe_kxS (E := WE W) (ok_book T.p.b) hr (fun σ => passAt tk σ) (by rfl) (pa_cons (pv 0) (pa_cons (pv 1) (pa_cons (pv 2) pa_nil))))))
    (fun a oe cls d pn hz hf => pss_one (ps_ret (pe_xf T.xB T.nB hz hf (pv 3))))), ?_⟩
  refine ⟨_, rfl, _, rfl, _, rfl, fun p dx hp hdx hne => ?_⟩
  have s0 : Same H (upd (upd H dx (.own p)) p (.ins (He.ga K "Book") dx [])) := fun b o e => by
    rw [upd_ne (ne_of_none e hp), upd_ne (ne_of_none e hdx)]
    exact e
  refine ⟨p, dx, v, b, st, fs, rfl, upd_same, hf.same s0, hz, hbl, hfl, fun e H1 q s1 hp1 hq1 hf1 => ⟨rfl, ?_⟩, fun z e d H1 s1 hd hx => ⟨true, T.eB, fun _ a ha => ?_, fun h => Bool.noConfusion h⟩⟩
  · exact k1 e _ H1 (fun b o eb => s1 b o (ne_of_none eb hp) (s0 _ _ eb)) ⟨p, dx, q, v, rfl, hp1, hq1, hf1⟩
  · exact ⟨_, rfl, rfl, rfl, d, _, _, rfl, hx, rfl, k2 z e H1 (s0.trans s1)⟩
theorem plan_binds {f : Addr} {fd : FuncData} (D : FunD K "__init__" "Plan.__init__" (defArgs (inClass (top 43) 0)) (defBody (inClass (top 43) 0)) (defScope (inClass (top 43) 0)) [] [("free", .non), ("writers", .non), ("askers", .non)] f fd) :
    ∃ mv : List Value, KBn K fd ["self", "book", "columns", "things", "free", "writers", "askers"] 4 ["free", "writers", "askers"] (fun us ws => us ++ ws) (fun vs zs => vs ++ zs) :=
  D.kbinds0 (ps := ["self", "book", "columns", "things", "free", "writers", "askers"]) 4 ["free", "writers", "askers"] [] (fun us _ ws => us ++ ws) (by simp) (fun q hq => by cases hq) (fun r1 _ r3 => r1.append r3)
    (fun D doc pm an cdv ct us mv ws l1 l2 l3 => match us, mv, ws, l1, l2, l3 with | [_, _, _, _], [], [_, _, _], _, _, _ => rfl)
theorem scTP : FnScope ["book", "columns", "things", "free", "writers", "askers", "error"] ["book", "columns", "things", "free", "writers", "askers"] (defScope (top 57)) := ⟨rfl, rfl, rfl, by decide +kernel, rfl, by decide +kernel, by decide +kernel⟩
def spTP (K : PySem.W.Frag) : Sp := fun vs H Q _ => ∃ (bv tv fv wv av : V) (b s c : Nat) (fs : List (List Tr)) (ths : List (Mode × Tr)) (fr wr as : Option (List Nat)), vs = [bv, .int (c : Int), tv, fv, wv, av] ∧
  BookAt K H b s fs bv ∧ fs.length < 1000 ∧ s ≤ 1000 ∧ ThingsAt K H ths tv ∧ ths.length < 1000 ∧ SzT ths ∧ OptAt H fr fv ∧ OptAt H wr wv ∧ OptAt H as av ∧
  (planBad b s fs.length c ths fr wr as = none → ∀ a dx l H', Same H H' → H' a = some (.ins (He.ga K "Plan") dx l) → Q (.ref a) H') ∧
  (∀ z, planBad b s fs.length c ths fr wr as = some z → ∀ H', Same H H' → Q (.str z.str) H')
theorem ThingsAt.but {p C dx : Addr} {H H' : Hp} {ths : List (Mode × Tr)} {v : V} (h : ThingsAt K H ths v) (s : SameBut p H H') (hp : H p = some (.ins C dx [])) : ThingsAt K H' ths v := by
  obtain ⟨a, ws, e, ha, ht⟩ := h
  refine ⟨a, ws, e, s.tups hp _ _ ha, L2.Paired.mapP ht fun bs x h => ?_⟩
  obtain ⟨a, u, e, ha, ht⟩ := h
  exact ⟨a, u, e, s.tups hp _ _ ha, ht.but s hp⟩
theorem ok_tp (T : Tx P K mg w) : CalX CX0 P w K mg base 22 "try_plan" (spTP K) := by
  refine cal_of T.dTryPlan scTP (fun _ _ _ _ _ _ us hl => match us, hl with | [_, _, _, _, _, _], _ => rfl) (fun vs H Q E ⟨bv, tv, fv, wv, av, b, s, c, fs, ths, fr, wr, as, e, _⟩ => by rw [e]; rfl) ?_
  rintro f cdv A outer s H vs Q E hr ⟨bv, tv, fv, wv, av, b, st, c, fs, ths, fr, wr, as, rfl, hbk, hfl, hst, hth, htl, hz, hfr, hwr, has, k1, k2⟩
  have nd := scTP.nd
  obtain ⟨fp, fdp, D, g, M⟩ := T.p.iPlan
  have PB := ok_planB (P := P) (w := w) (mg := mg) (base := base) T.p D
  obtain ⟨mv, kb⟩ := plan_binds D
  refine ⟨_, pss_one (ps_try_as (i := 6) rfl rfl nd rfl rfl ⟨rfl, by decide, .inl T.gP⟩ takes0 (fun W pn xe tk _ => pss_one (ps_ret (pe_makeKS (n := 3) (E := WE W) M PB hr (by rfl) g kb (fun σ => passAt tk σ) (pa_cons (pv 0) (pa_cons (pv 1) (pa_cons (pv 2) pa_nil))) (pk_cons (pv 3) (pk_cons (pv 4) (pk_cons (pv 5) pk_nil))))))
    (fun a oe cls d pn hz hf => pss_one (ps_ret (pe_xf T.xP T.nP hz hf (pv 6))))), ?_⟩
  refine ⟨_, rfl, _, rfl, _, rfl, _, rfl, _, rfl, _, rfl, rfl, rfl, fun p dx hp hdx hne => ?_⟩
  have s0 : Same H (upd (upd H dx (.own p)) p (.ins (He.ga K "Plan") dx [])) := fun b o e => by
    rw [upd_ne (ne_of_none e hp), upd_ne (ne_of_none e hdx)]
    exact e
  refine ⟨p, dx, bv, tv, fv, wv, av, b, st, c, fs, ths, fr, wr, as, rfl, upd_same, hbk.same s0, hfl, hst, hth.same s0, htl, hz, hfr.same s0, hwr.same s0, has.same s0, fun e H1 l s1 hp1 => ⟨rfl, ?_⟩, fun z e d H1 s1 hd hx => ⟨true, T.eP, fun _ a ha => ?_, fun h => Bool.noConfusion h⟩⟩
  · exact k1 e p dx l H1 (fun b o eb => s1 b o (ne_of_none eb hp) (s0 _ _ eb)) hp1
  · exact ⟨_, rfl, rfl, rfl, d, _, _, rfl, hx, rfl, k2 z e H1 (s0.trans s1)⟩
/-! ### book_lines -/
theorem takeM_one (k : List Nat) (l : Option (List Nat)) : takeM k true l = (take1 k l).map fun n => [n] := by
  unfold takeM take1
  cases takeL k l with
  | none => rfl
  | some ns =>
    match ns with
    | [] => rfl
    | [n] => rfl
    | _ :: _ :: _ => rfl
theorem treesOf_none : ∀ {ws : List (List Nat)} {x : List Nat}, x ∈ ws → treeOf x = none → treesOf ws = none
  | w :: ws, x, h, e => by
    unfold treesOf
    rcases List.mem_cons.mp h with rfl | h
    · rw [e]
    · cases treeOf w with
      | none => rfl
      | some t =>
        show (treesOf ws).map _ = none
        rw [treesOf_none h e]
        rfl
theorem treesOf_snoc : ∀ {ws : List (List Nat)} {bs : List Tr} {x : List Nat} {t : Tr}, treesOf ws = some bs → treeOf x = some t → treesOf (ws ++ [x]) = some (bs ++ [t])
  | [], bs, x, t, h, e => by
    cases h
    show (match treeOf x with | none => none | some t => (treesOf []).map (t :: ·)) = _
    rw [e]
    rfl
  | w :: ws, bs, x, t, h, e => by
    unfold treesOf at h
    rw [List.cons_append]
    unfold treesOf
    cases ew : treeOf w with
    | none => rw [ew] at h; cases h
    | some u =>
      rw [ew] at h
      obtain ⟨bs', e', rfl⟩ := Option.map_eq_some_iff.mp h
      show (treesOf (ws ++ [x])).map _ = _
      rw [treesOf_snoc e' e]
      rfl
theorem treesOf_sz : ∀ {ws : List (List Nat)} {bs : List Tr}, treesOf ws = some bs → ∀ t ∈ bs, t.size ≤ 12
  | [], bs, h => by cases h; intro t ht; cases ht
  | w :: ws, bs, h => by
    unfold treesOf at h
    cases ew : treeOf w with
    | none => rw [ew] at h; cases h
    | some u =>
      rw [ew] at h
      obtain ⟨bs', e', rfl⟩ := Option.map_eq_some_iff.mp h
      intro t ht
      rcases List.mem_cons.mp ht with rfl | ht
      · unfold treeOf at ew
        split at ew
        · split at ew
          · cases ew; assumption
          · cases ew
        · cases ew
      · exact treesOf_sz e' t ht
theorem treeOf_sz {x : List Nat} {t : Tr} (h : treeOf x = some t) : t.size ≤ 12 := by
  unfold treeOf at h
  split at h
  · split at h
    · cases h; assumption
    · cases h
  · cases h
theorem FormAt.but2 {p C dx : Addr} {l : List (Str × V)} {H H' : Hp} {t : Tr} {v : V} (h : FormAt K H t v) (s : SameBut p H H') (hp : H p = some (.ins C dx l)) (hl : l.length ≠ 1) : FormAt K H' t v := by
  obtain ⟨a, dx', u, e, ha, ht⟩ := h
  exact ⟨a, dx', u, e, s _ _ (fun q => by rw [q, hp] at ha; cases ha; exact hl rfl) ha, ht.tups (s.tups hp)⟩
theorem FunsAt.but2 {p C dx : Addr} {l : List (Str × V)} {H H' : Hp} {fs : List (List Tr)} {v : V} (h : FunsAt K H fs v) (s : SameBut p H H') (hp : H p = some (.ins C dx l)) (hl : l.length ≠ 1) : FunsAt K H' fs v := by
  obtain ⟨a, ws, e, ha, ht⟩ := h
  refine ⟨a, ws, e, s.tups hp _ _ ha, L2.Paired.mapP ht fun bs x h => ?_⟩
  obtain ⟨a, ws, e, ha, ht⟩ := h
  exact ⟨a, ws, e, s.tups hp _ _ ha, L2.Paired.mapP ht fun _ _ h => h.but2 s hp hl⟩
theorem BookAt.but2 {p C dx : Addr} {l : List (Str × V)} {H H' : Hp} {b st : Nat} {fs : List (List Tr)} {v : V} (h : BookAt K H b st fs v) (s : SameBut p H H') (hp : H p = some (.ins C dx l)) (hl : l.length ≠ 1) : BookAt K H' b st fs v := by
  obtain ⟨a, dx', q, u, e, h1, h2, h3⟩ := h
  exact ⟨a, dx', q, u, e, s _ _ (fun q => by rw [q, hp] at h1; cases h1; exact hl rfl) h1, s.tups hp _ _ h2, h3.but2 s hp hl⟩
theorem ThingsAt.but2 {p C dx : Addr} {l : List (Str × V)} {H H' : Hp} {ths : List (Mode × Tr)} {v : V} (h : ThingsAt K H ths v) (s : SameBut p H H') (hp : H p = some (.ins C dx l)) (hl : l.length ≠ 1) : ThingsAt K H' ths v := by
  obtain ⟨a, ws, e, ha, ht⟩ := h
  refine ⟨a, ws, e, s.tups hp _ _ ha, L2.Paired.mapP ht fun bs x h => ?_⟩
  obtain ⟨a, u, e, ha, ht⟩ := h
  exact ⟨a, u, e, s.tups hp _ _ ha, ht.but2 s hp hl⟩
theorem tYesIf {σ : L2.St} {H : Hp} {A B : Hp → Prop} (h : A H) : tYes σ H (fun b H3 => if b = true then A H3 else B H3) := by
  show (if true = true then A H else B H)
  rw [if_pos rfl]
  exact h
theorem FormAt.lst {H : Hp} {t : Tr} {v : V} {l : Addr} {xs ys : List V} (h : FormAt K H t v) (hl : H l = some (.lst xs)) : FormAt K (upd H l (.lst ys)) t v := by
  obtain ⟨a, dx, u, e, ha, ht⟩ := h
  exact ⟨a, dx, u, e, by rw [upd_ne (ne_of ha hl (by intro z; cases z))]; exact ha, ht.tups (tups_lst hl)⟩
theorem eqTB (T : Tx P K mg w) {x : V} {H : Hp} {z : Str} {Q : VK} {E : XK} (h : (∃ y, x = .str y ∧ Q (.bl (decide (V.str y = V.str z))) H) ∨ (∃ b s fs, BookAt K H b s fs x ∧ Q (.bl false) H)) :
    rEq x (.str z) H Q ∨ rEqOwn K (He.ga K "Book") (spP7 K) E x (.str z) H Q := by
  rcases h with ⟨y, rfl, q⟩ | ⟨b, s, fs, hb, q⟩
  · exact .inl ⟨rfl, q⟩
  · obtain ⟨a, dx, qq, u, rfl, h1, h2, h3⟩ := id hb
    exact .inr ⟨a, dx, _, z, rfl, rfl, h1, T.p.b.nf, .ref a, z, b, s, fs, rfl, hb, false, rfl, q⟩
theorem funsGo_cons {b : Nat} {fs : List (List Tr)} {l x : List Nat} {ws ls : List (List Nat)} (h : cut 32 l = x :: ws) : funsGo b fs (l :: ls) = if x = cs "function" then (match treesOf ws with
    | none => (false, fs)
    | some bs => if funsAll b (fs ++ [bs]) = true then funsGo b (fs ++ [bs]) ls else (false, fs)) else (true, fs) := by
  rw [funsGo, h]
  all_goals rfl
theorem funsGo_at (b : Nat) (fs : List (List Tr)) (ls : List (List Nat)) (i : Nat) : funsGo b fs (ls.drop i) = if (wordsAt ls i).take 1 = [cs "function"] then (match treesOf ((wordsAt ls i).drop 1) with
    | none => (false, fs)
    | some bs => if funsAll b (fs ++ [bs]) = true then funsGo b (fs ++ [bs]) (ls.drop (i + 1)) else (false, fs)) else (true, fs) := by
  unfold wordsAt
  cases e : ls[i]? with
  | none =>
    have : ls.length ≤ i := List.getElem?_eq_none_iff.mp e
    rw [List.drop_of_length_le this]
    rfl
  | some l =>
    have hi := (List.getElem?_eq_some_iff.mp e).1
    rw [List.drop_eq_getElem_cons hi, show ls[i] = l from (List.getElem?_eq_some_iff.mp e).2]
    show _ = if (cut 32 l).take 1 = [cs "function"] then (match treesOf ((cut 32 l).drop 1) with
      | none => (false, fs)
      | some bs => if funsAll b (fs ++ [bs]) = true then funsGo b (fs ++ [bs]) (ls.drop (i + 1)) else (false, fs)) else (true, fs)
    cases e2 : cut 32 l with
    | nil => exact absurd e2 (cut_ne 32 l)
    | cons h ws =>
      rw [funsGo_cons e2]
      by_cases hh : h = cs "function"
      · rw [if_pos hh, if_pos (by rw [hh]; rfl)]
        rfl
      · rw [if_neg hh, if_neg (by intro z; exact hh (List.cons.inj z).1)]
theorem bookBad_ok {b s : Nat} {fs : List (List Tr)} (h1 : 2 ≤ b ∧ b ≤ 3) (h2 : 1 ≤ s ∧ s ≤ b) : bookBad b s fs = if funsAll b fs = false then some .functions else none := by
  unfold bookBad
  rw [if_neg (not_not_intro h1), if_neg (not_not_intro h2)]
theorem one_funs {b : Nat} (h : 2 ≤ b) : funsAll b [[.num 0]] = true := by
  show (decide (1 ≤ 1 ∧ 1 ≤ 3) && ((decide (1 ≤ 1 ∧ 1 ≤ 3) && (([Tr.num 0] : List Tr).all (goodT b 0 leafB))) && true)) = true
  have : goodT b 0 leafB (.num 0) = true := by
    show ((decide (0 < b)) && true) = true
    rw [decide_eq_true (by omega)]
    rfl
  simp [this]
theorem scBL : FnScope ["lines", "body", "base", "settings", "functions", "late", "word"] ["lines"] (defScope (top 55)) := ⟨rfl, rfl, rfl, by decide +kernel, rfl, by decide +kernel, by decide +kernel⟩
def spBL (K : PySem.W.Frag) : Sp := fun vs H Q E => ∃ (p : Addr) (ls : List (List Nat)) (wh : Bool), vs = [.ref p] ∧ LnAt K H p ls wh 0 ∧ Fit ls ∧ (∀ a, bookR ls = .bad a → BadAt K H p a E) ∧
  (∀ b s fs, bookR ls = .ok b s fs → ∀ v H', SameBut p H H' → LnAt K H' p ls wh (2 + fs.length) → BookAt K H' b s fs v → Q v H')
theorem ok_bl (T : Tx P K mg w) : CalX (L2.CX P w) P w K mg base 31 "book_lines" (spBL K) := by
  refine cal_of T.dBookLines scBL (fun _ _ _ _ _ _ us hl => match us, hl with | [_], _ => rfl) (fun vs H Q E ⟨p, ls, wh, e, _⟩ => by rw [e]; rfl) ?_
  rintro f cdv A outer s H vs Q E hr ⟨p, ls, wh, rfl, hln, F, k1, k2⟩
  have nd := scBL.nd
  have Fm := T.r.f
  have B := Fm.B
  obtain ⟨q, fI, eT⟩ := T.r.eT
  refine ⟨_, pss_cons (ps_set (i := 1) nd rfl (Or.inl rfl) (pe_kx (ok_form Fm) hr pass0 (by rfl) (pa_cons (pe_tup (pa_cons pe_str (pa_cons pe_int pa_nil))) pa_nil)))
    (pss_cons (ps_set (i := 2) nd rfl (Or.inl rfl) (pe_ix ix_list (pe_mx (ok_l3 T) T.L.c hr (passes_call (takes_of rfl rfl rfl rfl) (fun _ _ _ _ h => h)) (pv 0) (pa_cons pe_str (pa_cons pe_int pa_nil))) pe_int (fun _ _ => rfl)))
    (pss_cons (ps_if (pt_cmpR (OpR.or op_eq (op_eqOwn (ok_p7 T.p.b) hr pass0)) (pe_cx (ok_tb T) hr pass0 (by rfl) (pa_cons (pv 2) (pa_cons pe_int (pa_cons (pe_tup (pa_cons (pe_tup (pa_cons (pv 1) pa_nil)) pa_nil)) pa_nil)))) pe_str (nomark _)) (pss_one (ps_raiseSup rfl eT (room_rec hr) (takes_of rfl rfl rfl rfl) (pa_cons pe_int pa_nil) (by rfl))) pss_nil)
    (pss_cons (ps_set (i := 3) nd rfl (Or.inl rfl) (pe_ix ix_list (pe_mx (ok_l3 T) T.L.c hr (passes_call (takes_of rfl rfl rfl rfl) (fun _ _ _ _ h => h)) (pv 0) (pa_cons pe_str (pa_cons pe_int pa_nil))) pe_int (fun _ _ => rfl)))
    (pss_cons (ps_if (pt_cmpR (OpR.or op_eq (op_eqOwn (ok_p7 T.p.b) hr pass0)) (pe_cx (ok_tb T) hr pass0 (by rfl) (pa_cons (pv 2) (pa_cons (pv 3) (pa_cons (pe_tup (pa_cons (pe_tup (pa_cons (pv 1) pa_nil)) pa_nil)) pa_nil)))) pe_str (nomark _)) (pss_one (ps_raiseSup rfl eT (room_rec hr) (takes_of rfl rfl rfl rfl) (pa_cons pe_int pa_nil) (by rfl))) pss_nil)
    (pss_cons (ps_set (i := 4) nd rfl (Or.inl rfl) (pe_tup pa_nil))
    (pss_cons (ps_while (passes_of rfl) (pt_cmpR (op_eqW hr.units) (pe_slice sl_list (pe_mx0 (ok_l1 T) T.L.c hr pass0 (pv 0)) po_none (po_some pe_int)) (pe_lst (pa_cons pe_str pa_nil)) (nomark _))
      (pss_cons (ps_set (i := 5) nd rfl (Or.inl rfl) (pe_tup (StX.pa_star (pv 4) (pa_cons (pe_callTy call_tuple_of (by rfl) B.tuple_ (by decide +kernel) (pa_cons
          (pe_lcX (own := [("word", 6)]) (E := E) rfl rfl (takes_of rfl rfl rfl rfl) rfl nd (pi_list (pe_slice sl_list (pe_mx0 (ok_l1 T) T.L.c hr pass0 (pv 0)) (po_some pe_int) po_none)) (blkOk_by (N := ["lines", "body", "base", "settings", "functions", "late", "word"]) (sc := defScope (top 55)) (by decide +kernel))
            (fun _ _ _ _ _ => pg_name (i := 6) nd rfl (Or.inl rfl)) (fun _ _ _ _ _ => pts_nil) (fun _ _ _ _ _ _ hp => pe_mx (ok_l4 T) T.L.c hr hp (pv 0) (pa_cons (pv 6) pa_nil))) pa_nil)) pa_nil))))
      (pss_cons (ps_if (pt_cmpR (OpR.or op_eq (op_eqOwn (ok_p7 T.p.b) hr pass0)) (pe_cx (ok_tb T) hr pass0 (by rfl) (pa_cons (pv 2) (pa_cons (pv 3) (pa_cons (pv 5) pa_nil)))) pe_str (nomark _)) (pss_one (ps_expr (pe_mx0 (ok_l2 T) T.L.c hr (passes_call (takes_of rfl rfl rfl rfl) (fun _ _ _ _ h => h)) (pv 0)))) pss_nil)
      (pss_cons (ps_set (i := 4) nd rfl (Or.inl rfl) (pv 5)) (pss_one (ps_fldaug (pv 0) pe_int in_add))))))
    (pss_cons (ps_if (pt_cmpR (op_eqE hr.units0) (pv 4) (pe_tup pa_nil) (nomark _)) (pss_one (ps_expr (pe_mx0 (ok_l2 T) T.L.c hr (passes_call (takes_of rfl rfl rfl rfl) (fun _ _ _ _ h => h)) (pv 0)))) pss_nil)
    (pss_one (ps_ret (pe_kx (ok_book T.p.b) hr (passes_call (takes_of rfl rfl rfl rfl) (fun _ _ _ _ h => h)) (by rfl) (pa_cons (pv 2) (pa_cons (pv 3) (pa_cons (pv 4) pa_nil))))))))))))), ?_⟩
  obtain ⟨dx, a, h1, h2⟩ := id hln
  refine ⟨(by show 2 ≤ sizeLine; decide), fun t0 ht0 => ?_⟩
  have s0 := same_upd (o := .tup [.str "number", .int 0]) ht0
  have g0 := upd_same (H := H) (a := t0) (o := .tup [.str "number", .int 0])
  intro qf dqf hqf hdqf hnqf
  have s1 : Same H (upd (upd (upd H t0 (.tup [.str "number", .int 0])) dqf (.own qf)) qf (.ins (He.ga K "Form") dqf [])) := fun b o e => by
    have e := s0 _ _ e
    rw [upd_ne (ne_of_none e hqf), upd_ne (ne_of_none e hdqf)]
    exact e
  have g1 : upd (upd (upd H t0 (.tup [.str "number", .int 0])) dqf (.own qf)) qf (.ins (He.ga K "Form") dqf []) t0 = some (.tup [.str "number", .int 0]) := by
    rw [upd_ne (ne_of_none g0 hqf), upd_ne (ne_of_none g0 hdqf)]
    exact g0
  refine ⟨qf, dqf, .ref t0, .num 0, rfl, upd_same, ⟨t0, rfl, g1⟩, rfl, by decide, fun H1 s2 hq1 => ⟨rfl, ?_⟩⟩
  have qnone : H qf = none := Same.free s0 hqf
  have s3 : Same H H1 := fun b o e => s2 b o (ne_of_none e qnone) (s1 _ _ e)
  have hform : FormAt K H1 (.num 0) (.ref qf) := ⟨qf, dqf, .ref t0, rfl, hq1, t0, rfl, s2 _ _ (fun e => by rw [e, upd_same] at g1; cases g1) g1⟩
  have hln1 := hln.same s3
  have hp1 := s3 _ _ h1
  have ascB : Asc (cs "base") := by unfold Asc; decide +kernel
  have ascS : Asc (cs "settings") := by unfold Asc; decide +kernel
  refine ⟨_, rfl, p, dx, _, rfl, hp1, by rfl, p, cs "base", true, ls, wh, 0, by rfl, hln1, F, ascB, fun e => ?_, fun ns e q1 H2 s4 hq1n hln2 hq1v => ?_⟩
  · rw [takeM_one] at e
    exact (k1 0 (by unfold bookR; rw [Option.map_eq_none_iff.mp e])).pre (Same.but s3) hp1
  rw [takeM_one] at e
  obtain ⟨b, eb, rfl⟩ := Option.map_eq_some_iff.mp e
  have hform := hform.but2 s4 hp1 (by show 3 ≠ 1; decide)
  obtain ⟨dx2, a2, x1, x2⟩ := id hln2
  refine ⟨q1, _, 0, _, rfl, rfl, SqL.of hq1v, atI_nat (j := 0) rfl, ?_⟩
  refine ⟨_, rfl, _, rfl, (by show 1 ≤ sizeLine; decide), fun u1 hu1 => ⟨(by show 1 ≤ sizeLine; decide), fun u2 hu2 => ?_⟩⟩
  have t1 := same_upd (o := .tup [.ref qf]) hu1
  have t2 := same_upd (o := .tup [.ref u1]) hu2
  have t3 := t1.trans t2
  have y1 : upd (upd H2 u1 (.tup [.ref qf])) u2 (.tup [.ref u1]) u1 = some (.tup [.ref qf]) := t2 _ _ upd_same
  have y2 := upd_same (H := upd H2 u1 (.tup [.ref qf])) (a := u2) (o := .tup [.ref u1])
  generalize upd (upd H2 u1 (.tup [.ref qf])) u2 (.tup [.ref u1]) = H3 at t3 y1 y2
  have hf1 : FunsAt K H3 [[.num 0]] (.ref u2) := ⟨u2, _, rfl, y2, .cons ⟨u1, _, rfl, y1, .cons (hform.same t3) .nil⟩ .nil⟩
  have hsz1 : SzF [[.num 0]] := fun bs hb t ht => by
    rw [List.mem_singleton.mp hb] at ht
    rw [List.mem_singleton.mp ht]
    decide
  have hl1 : ∀ bs ∈ ([[.num 0]] : List (List Tr)), bs.length < 5000 := fun bs hb => by
    rw [List.mem_singleton.mp hb]
    decide
  have s5 := (Same.but s3).trans (s4.trans (Same.but t3))
  have hp3 := t3 _ _ x1
  have hln3 := hln2.same t3
  by_cases c1 : 2 ≤ b ∧ b ≤ 3
  case neg =>
    have ebk : bookR ls = .bad 0 := by unfold bookR; rw [eb]; exact if_pos c1
    have ebb : bookBad b 1 [[.num 0]] = some .base := by unfold bookBad; rw [if_pos c1]
    refine ⟨.ref u2, b, 1, [[.num 0]], rfl, hf1, hsz1, hl1, (by decide), (fun e => by rw [ebb] at e; cases e), fun z e H4 s6 => ?_⟩
    rw [ebb] at e
    cases e
    refine eqTB T (.inl ⟨_, rfl, _, rfl, ?_⟩)
    rw [show decide (V.str BookPart.base.str = V.str "BASE") = true from by decide +kernel]
    exact iteT ⟨_, rfl, fun d hd => (k1 0 ebk) d _ (s5.trans (Same.but (s6.trans (same_upd hd)))) (free_but s5 hp3 (Same.free s6 hd)) upd_same⟩
  have ebb : bookBad b 1 [[.num 0]] = none := by rw [bookBad_ok c1 (by omega), one_funs (by omega)]; rfl
  refine ⟨.ref u2, b, 1, [[.num 0]], rfl, hf1, hsz1, hl1, (by decide), (fun _ bv H4 s6 hb4 => ?_), (fun z e => by rw [ebb] at e; cases e)⟩
  refine eqTB T (.inr ⟨_, _, _, hb4, false, rfl, iteF ?_⟩)
  have hp4 := s6 _ _ hp3
  have s7 := s5.trans (Same.but s6)
  refine ⟨_, rfl, p, dx2, _, rfl, hp4, by rfl, p, cs "settings", true, ls, wh, 1, by rfl, hln3.same s6, F, ascS, fun e => ?_, fun ns e q2 H5 s8 hq2n hln5 hq2v => ?_⟩
  · rw [takeM_one] at e
    refine (k1 1 ?_).pre s7 hp4
    unfold bookR
    rw [eb]
    dsimp only
    rw [if_neg (not_not_intro c1), Option.map_eq_none_iff.mp e]
  rw [takeM_one] at e
  obtain ⟨st, es, rfl⟩ := Option.map_eq_some_iff.mp e
  have hform5 := ((hform.same t3).same s6).but2 s8 hp4 (by show 3 ≠ 1; decide)
  obtain ⟨dx5, a5, v1, v2⟩ := id hln5
  have s9 := s7.trans s8
  refine ⟨q2, _, 0, _, rfl, rfl, SqL.of hq2v, atI_nat (j := 0) rfl, ?_⟩
  refine ⟨_, rfl, _, rfl, _, rfl, (by show 1 ≤ sizeLine; decide), fun u3 hu3 => ⟨(by show 1 ≤ sizeLine; decide), fun u4 hu4 => ?_⟩⟩
  have t4 := same_upd (o := .tup [.ref qf]) hu3
  have t5 := same_upd (o := .tup [.ref u3]) hu4
  have t6 := t4.trans t5
  have z1 : upd (upd H5 u3 (.tup [.ref qf])) u4 (.tup [.ref u3]) u3 = some (.tup [.ref qf]) := t5 _ _ upd_same
  have z2 := upd_same (H := upd H5 u3 (.tup [.ref qf])) (a := u4) (o := .tup [.ref u3])
  generalize upd (upd H5 u3 (.tup [.ref qf])) u4 (.tup [.ref u3]) = H6 at t6 z1 z2
  have hf2 : FunsAt K H6 [[.num 0]] (.ref u4) := ⟨u4, _, rfl, z2, .cons ⟨u3, _, rfl, z1, .cons (hform5.same t6) .nil⟩ .nil⟩
  have hp6 := t6 _ _ v1
  have hln6 := hln5.same t6
  have s10 := s9.trans (Same.but t6)
  by_cases c2 : 1 ≤ st ∧ st ≤ b
  case neg =>
    have ebk : bookR ls = .bad 1 := by
      unfold bookR
      rw [eb]
      dsimp only
      rw [if_neg (not_not_intro c1), es]
      exact if_pos c2
    have ebb : bookBad b st [[.num 0]] = some .settings := by unfold bookBad; rw [if_neg (not_not_intro c1), if_pos c2]
    refine ⟨.ref u4, b, st, [[.num 0]], rfl, hf2, hsz1, hl1, (by decide), (fun e => by rw [ebb] at e; cases e), fun z e H7 s11 => ?_⟩
    rw [ebb] at e
    cases e
    refine eqTB T (.inl ⟨_, rfl, _, rfl, ?_⟩)
    rw [show decide (V.str BookPart.settings.str = V.str "SETTINGS") = true from by decide +kernel]
    exact iteT ⟨_, rfl, fun d hd => (k1 1 ebk) d _ (s10.trans (Same.but (s11.trans (same_upd hd)))) (free_but s10 hp6 (Same.free s11 hd)) upd_same⟩
  have ebb2 : bookBad b st [[.num 0]] = none := by rw [bookBad_ok c1 c2, one_funs (by omega)]; rfl
  refine ⟨.ref u4, b, st, [[.num 0]], rfl, hf2, hsz1, hl1, (by decide), (fun _ bv2 H7 s11 hb7 => ?_), (fun z e => by rw [ebb2] at e; cases e)⟩
  refine eqTB T (.inr ⟨_, _, _, hb7, false, rfl, iteF ?_⟩)
  have ebR : bookR ls = if (funsGo b [] (ls.drop 2)).1 = true then (if (funsGo b [] (ls.drop 2)).2 = [] then .bad 2 else .ok b st (funsGo b [] (ls.drop 2)).2) else .bad (2 + (funsGo b [] (ls.drop 2)).2.length) := by
    unfold bookR
    rw [eb]
    dsimp only
    rw [if_neg (not_not_intro c1), es]
    exact if_neg (not_not_intro c2)
  have s12 := s10.trans (Same.but s11)
  refine ⟨Nat.zero_le _, fun u5 hu5 => ?_⟩
  have t7 := same_upd (o := .tup []) hu5
  have z5 := upd_same (H := H7) (a := u5) (o := .tup [])
  have s13 := s12.trans (Same.but t7)
  have hln8 := (hln6.same s11).same t7
  generalize upd H7 u5 (.tup []) = H8 at z5 s13 hln8
  refine ⟨fun m σ H' => ∃ fs fv x5, σ = [some (.ref p), some (.ref qf), some (.int (b : Int)), some (.int (st : Int)), some fv, x5, none] ∧ SameBut p H H' ∧ LnAt K H' p ls wh (2 + fs.length) ∧ FunsAt K H' fs fv ∧ SzF fs ∧
      funsGo b [] (ls.drop 2) = funsGo b fs (ls.drop (2 + fs.length)) ∧ m = ls.length - (2 + fs.length) ∧ (fs = [] ∨ funsAll b fs = true), ⟨ls.length - 2, [], .ref u5, none, rfl, s13, (show LnAt K H8 p ls wh (2 + ([] : List (List Tr)).length) from hln8), ⟨u5, [], rfl, z5, .nil⟩, (fun bs hb => by cases hb), rfl, rfl, .inl rfl⟩, ?_⟩
  rintro m σ H9 ⟨fs, fv, x5, rfl, s14, hln9, hfs, hsz, hgo, hm, hfa⟩
  have hflen : fs.length ≤ 3 ∧ ∀ bs ∈ fs, bs.length < 5000 := by
    rcases hfa with rfl | h
    · exact ⟨by decide, fun bs hb => by cases hb⟩
    · unfold funsAll at h
      rw [Bool.and_eq_true, decide_eq_true_eq] at h
      refine ⟨h.1.2, fun bs hb => ?_⟩
      obtain ⟨i, hi, rfl⟩ := List.getElem_of_mem hb
      have h2 := h.2
      rw [funsOk_at (List.getElem?_eq_getElem hi), Bool.and_eq_true, Bool.and_eq_true] at h2
      have h3 := h2.2.1
      unfold bsOk at h3
      rw [Bool.and_eq_true, decide_eq_true_eq] at h3
      omega
  obtain ⟨dx9, a9, w1, w2⟩ := id hln9
  obtain ⟨wl, wx⟩ := F.wlen (2 + fs.length)
  refine ⟨_, rfl, p, dx9, _, rfl, w1, by rfl, p, ls, wh, 2 + fs.length, rfl, hln9, F, fun q3 H10 s15 hq3 hq3v => ?_⟩
  refine ⟨_, rfl, q3, _, rfl, SqL.of hq3v, fun q4 hq4 => ⟨(by show 1 ≤ sizeLine; decide), fun q5 hq5 => ?_⟩⟩
  have e1 : cutV (wV (wordsAt ls (2 + fs.length))) none (some 1) = wV ((wordsAt ls (2 + fs.length)).take 1) := by
    rw [show (1 : Int) = ((1 : Nat) : Int) from rfl, cutVL_to, wV_take]
  rw [e1] at hq5 ⊢
  have r1 := same_upd (o := .lst (wV ((wordsAt ls (2 + fs.length)).take 1))) hq4
  have r2 := same_upd (o := .lst [.str "function"]) hq5
  have r3 := s15.trans (r1.trans r2)
  have y4 : SqL K (upd (upd H10 q4 (.lst (wV ((wordsAt ls (2 + fs.length)).take 1)))) q5 (.lst [.str "function"])) q4 (((wordsAt ls (2 + fs.length)).take 1).map SX.S |>.map V.str) := by
    rw [← wV_str]
    exact SqL.of (r2 _ _ upd_same)
  have y5 : SqL K (upd (upd H10 q4 (.lst (wV ((wordsAt ls (2 + fs.length)).take 1)))) q5 (.lst [.str "function"])) q5 (([cs "function"].map SX.S).map V.str) := SqL.of upd_same
  refine ⟨q4, q5, _, _, rfl, rfl, y4, y5, okS_all fun x hx => (wx x (List.mem_of_mem_take hx)).2.1, (by decide +kernel), _, rfl, ?_⟩
  rw [map_S_inj]
  generalize upd (upd H10 q4 (.lst (wV ((wordsAt ls (2 + fs.length)).take 1)))) q5 (.lst [.str "function"]) = H11 at r3
  have s16 := s14.trans (Same.but r3)
  have hln11 := hln9.same r3
  have w11 := r3 _ _ w1
  have hfs11 := hfs.same r3
  have gat := funsGo_at b fs ls (2 + fs.length)
  by_cases hw : (wordsAt ls (2 + fs.length)).take 1 = [cs "function"]
  case neg =>
    rw [decide_eq_false hw]
    rw [if_neg hw] at gat
    have gend : funsGo b [] (ls.drop 2) = (true, fs) := hgo.trans gat
    rw [gend] at ebR
    refine ⟨_, rfl, Nat.zero_le _, fun u6 hu6 => ?_⟩
    have t8 := same_upd (o := .tup []) hu6
    obtain ⟨fa, fvs, rfl, hfa1, hfa2⟩ := id hfs11
    refine ⟨fa, u6, _, rfl, rfl, .inl (.inl (t8 _ _ hfa1)), .inl (.inl upd_same), _, rfl, ?_⟩
    have hem : fvs.isEmpty = decide (fs = []) := by
      have := Paired.len hfa2
      cases fs with
      | nil => cases fvs with
        | nil => rfl
        | cons x y => cases this
      | cons x y => cases fvs with
        | nil => cases this
        | cons _ _ => rfl
    rw [hem]
    have s17 := s16.trans (Same.but t8)
    by_cases hnil : fs = []
    · rw [decide_eq_true hnil]
      have ebk : bookR ls = .bad 2 := by rw [ebR, if_pos rfl]; exact if_pos hnil
      subst hnil
      exact iteT ⟨_, rfl, p, dx9, _, rfl, t8 _ _ w11, by rfl, p, ls, wh, 2, rfl, hln11.same t8, (k1 2 ebk).pre s17 (t8 _ _ w11)⟩
    · rw [decide_eq_false hnil]
      have ebk : bookR ls = .ok b st fs := by rw [ebR, if_pos rfl]; exact if_neg hnil
      have hfa : funsAll b fs = true := hfa.resolve_left hnil
      refine iteF ⟨_, rfl, _, rfl, _, rfl, fun qb dqb hqb hdqb hnqb => ?_⟩
      have hH12 : Same (upd H11 u6 (.tup [])) (upd (upd (upd H11 u6 (.tup [])) dqb (.own qb)) qb (.ins (He.ga K "Book") dqb [])) := fun c o e => by
        rw [upd_ne (ne_of_none e hqb), upd_ne (ne_of_none e hdqb)]
        exact e
      refine ⟨qb, dqb, .ref fa, b, st, fs, rfl, upd_same, (hfs11.same t8).same hH12, hsz, hflen.2, by omega, fun _ H13 qq s18 hqb13 hqq13 hf13 => ⟨rfl, ?_⟩, fun z e => ?_⟩
      · have s19 : Same (upd H11 u6 (.tup [])) H13 := fun c o e => s18 c o (ne_of_none e hqb) (hH12 _ _ e)
        exact k2 b st fs ebk (.ref qb) H13 (s17.trans (Same.but s19)) ((hln11.same t8).same s19) ⟨qb, dqb, qq, .ref fa, rfl, hqb13, hqq13, hf13⟩
      · rw [bookBad_ok c1 c2, hfa] at e
        cases e
  rw [decide_eq_true hw]
  rw [if_pos hw] at gat
  have hat : 2 + fs.length < ls.length := by
    unfold wordsAt at hw
    cases e : ls[2 + fs.length]? with
    | none => rw [e] at hw; cases hw
    | some l => exact (List.getElem?_eq_some_iff.mp e).1
  refine ⟨fun σ' H' => ∃ fs' fv x5, σ' = [some (.ref p), some (.ref qf), some (.int (b : Int)), some (.int (st : Int)), some fv, x5, none] ∧ SameBut p H H' ∧ LnAt K H' p ls wh (2 + fs'.length) ∧ FunsAt K H' fs' fv ∧ SzF fs' ∧
      funsGo b [] (ls.drop 2) = funsGo b fs' (ls.drop (2 + fs'.length)) ∧ fs'.length = fs.length + 1 ∧ funsAll b fs' = true, fun σ' H' ⟨fs', fv, x5, e1, e2, e3, e4, e5, e6, e7, e8⟩ => ⟨ls.length - (2 + fs'.length), by omega, fs', fv, x5, e1, e2, e3, e4, e5, e6, rfl, .inr e8⟩, ?_⟩
  obtain ⟨fa, fvs, rfl, hfa1, hfa2⟩ := id hfs11
  refine ⟨_, rfl, fa, fvs, rfl, .inl (.inl (.inl hfa1)), _, rfl, p, dx9, _, rfl, w11, by rfl, p, ls, wh, 2 + fs.length, rfl, hln11, F, fun q6 H12 s17 hq6 hq6v => ?_⟩
  refine ⟨_, rfl, q6, _, rfl, SqL.of hq6v, fun q7 hq7 => ?_⟩
  have e2 : cutV (wV (wordsAt ls (2 + fs.length))) (some 1) none = wV ((wordsAt ls (2 + fs.length)).drop 1) := by
    rw [show (1 : Int) = ((1 : Nat) : Int) from rfl, cutVL_from, wV_drop]
  rw [e2]
  have r4 := same_upd (o := .lst (wV ((wordsAt ls (2 + fs.length)).drop 1))) hq7
  have y7 := upd_same (H := H12) (a := q7) (o := .lst (wV ((wordsAt ls (2 + fs.length)).drop 1)))
  have r5 := s17.trans r4
  have s18 := s16.trans (Same.but r5)
  generalize upd H12 q7 (.lst (wV ((wordsAt ls (2 + fs.length)).drop 1))) = H13 at r5 s18 y7
  generalize hws : (wordsAt ls (2 + fs.length)).drop 1 = ws at y7 gat
  have hwl2 : ws.length ≤ 2001 := by rw [← hws, List.length_drop]; omega
  have hwx2 : ∀ x ∈ ws, x.length ≤ 2000 ∧ Asc x ∧ GoodW x := fun x hx => wx x (by rw [← hws] at hx; exact List.mem_of_mem_drop hx)
  refine ⟨q7, rfl, ⟨_, SqL.of y7⟩, fun D hD => lc_list (xs := wV ws) (fun i H' => Same H13 H' ∧ ∃ bs vs, treesOf (ws.take i) = some bs ∧ H' D = some (.lst vs) ∧ Paired (FormAt K H') bs vs) ⟨same_upd hD, [], [], rfl, upd_same, .nil⟩ (fun i H' _ h => (h.1).seq (SqL.of y7)) ?_ ?_⟩
  · rintro i x H' hx ⟨s19, bs, vs, hb1, hb2, hb3⟩
    rw [wV, List.getElem?_map] at hx
    obtain ⟨y, hy, rfl⟩ := Option.map_eq_some_iff.mp hx
    obtain ⟨g1, g2, g3⟩ := hwx2 y (List.mem_of_getElem? hy)
    have w13 := (r5.trans s19) _ _ w11
    refine ⟨rfl, ?_⟩
    refine tYesIf ?_
    refine ⟨_, rfl, p, dx9, _, rfl, w13, by rfl, _, rfl, p, y, ls, wh, 2 + fs.length, rfl, hln11.same (r5.trans s19), g1, g3, fun t e v H'' s20 hf => ?_, fun e => ?_⟩
    · refine ⟨vs, s20 _ _ hb2, ?_, same_new (s19.trans s20) hD, bs ++ [t], vs ++ [v], ?_, upd_same, ?_⟩
      · have := Paired.len hb3
        have := treesOf_len hb1
        rw [List.length_take] at this
        rw [sizeLine_eq]
        omega
      · rw [List.take_add_one, hy]
        exact treesOf_snoc hb1 e
      · exact Paired.app (L2.Paired.mapP hb3 fun _ _ h => (h.same s20).lst (s20 _ _ hb2)) (.cons (hf.lst (s20 _ _ hb2)) .nil)
    · have ebk : bookR ls = .bad (2 + fs.length) := by
        have : treesOf ws = none := treesOf_none (List.mem_of_getElem? hy) e
        rw [this] at gat
        rw [ebR, hgo.trans gat]
        rfl
      exact (k1 _ ebk).pre (s18.trans (Same.but s19)) w13
  · rintro H14 ⟨s19, bs, vs, hb1, hb2, hb3⟩
    rw [show (wV ws).length = ws.length from by simp [wV], List.take_length] at hb1
    rw [hb1] at gat
    have gat : funsGo b fs (ls.drop (2 + fs.length)) = if funsAll b (fs ++ [bs]) = true then funsGo b (fs ++ [bs]) (ls.drop (2 + fs.length + 1)) else (false, fs) := gat
    refine ⟨D, vs, rfl, .inl ⟨SqL.of hb2, fun u7 hu7 => ?_⟩⟩
    have t9 := same_upd (o := .tup vs) hu7
    have hfv := Paired.len hfa2
    refine ⟨by rw [List.length_append, List.length_singleton, sizeLine_eq]; omega, fun u8 hu8 => ?_⟩
    have t10 := same_upd (o := .tup (fvs ++ [.ref u7])) hu8
    have s20 := s19.trans (t9.trans t10)
    have x7 : upd (upd H14 u7 (.tup vs)) u8 (.tup (fvs ++ [.ref u7])) u7 = some (.tup vs) := t10 _ _ upd_same
    have x8 := upd_same (H := upd H14 u7 (.tup vs)) (a := u8) (o := .tup (fvs ++ [.ref u7]))
    have hb3 : Paired (FormAt K (upd (upd H14 u7 (.tup vs)) u8 (.tup (fvs ++ [.ref u7])))) bs vs := L2.Paired.mapP hb3 fun _ _ h => h.same (t9.trans t10)
    generalize upd (upd H14 u7 (.tup vs)) u8 (.tup (fvs ++ [.ref u7])) = H15 at s20 x7 x8 hb3
    have s21 := s18.trans (Same.but s20)
    have r6 := r5.trans s20
    have w15 := r6 _ _ w11
    have hln15 := hln11.same r6
    have hfs15 : FunsAt K H15 (fs ++ [bs]) (.ref u8) := ⟨u8, _, rfl, x8, Paired.app (L2.Paired.mapP hfa2 fun _ _ h => h.same r6) (.cons ⟨u7, vs, rfl, x7, hb3⟩ .nil)⟩
    have hbsz := treesOf_sz hb1
    have hsz15 : SzF (fs ++ [bs]) := fun c hc t ht => by
      rcases List.mem_append.mp hc with hc | hc
      · exact hsz c hc t ht
      · rw [List.mem_singleton.mp hc] at ht
        exact hbsz t ht
    have hbl := treesOf_len hb1
    refine ⟨_, rfl, _, rfl, _, rfl, .ref u8, b, st, fs ++ [bs], rfl, hfs15, hsz15, ?_, by rw [List.length_append, List.length_singleton]; omega, fun e bv H16 s22 hbv => ?_, fun z e H16 s22 => ?_⟩
    · intro c hc
      rcases List.mem_append.mp hc with hc | hc
      · exact hflen.2 c hc
      · rw [List.mem_singleton.mp hc, hbl]
        omega
    · rw [bookBad_ok c1 c2] at e
      cases hall : funsAll b (fs ++ [bs]) with
      | false => rw [hall] at e; cases e
      | true =>
        rw [hall, if_pos rfl] at gat
        refine eqTB T (.inr ⟨_, _, _, hbv, false, rfl, iteF ?_⟩)
        have w16 := s22 _ _ w15
        refine ⟨_, rfl, _, rfl, p, _, dx9, _, _, rfl, w16, T.L.c, T.nA, lf_at _ _ _, _, _, rfl, rfl, dx9, _, w16, (by show 3 < 1000; decide), ?_⟩
        have sb : SameBut p H16 (upd H16 p (.ins (He.ga K "Lines") dx9 (putF "at" (.int (((2 + fs.length : Nat) : Int) + 1)) (lf a9 wh (2 + fs.length))))) := but_upd SameBut.refl
        refine ⟨fs ++ [bs], .ref u8, _, rfl, (s21.trans (Same.but s22)).trans sb, ?_, (hfs15.same s22).but2 sb w16 (by show 3 ≠ 1; decide), hsz15, ?_, by simp, hall⟩
        · refine ⟨dx9, a9, ?_, ?_⟩
          · rw [upd_same, lf_put, List.length_append, List.length_singleton]
            rfl
          · have w29 := (r6.trans s22) _ _ (r3 _ _ w2)
            rw [upd_ne (ne_of w29 w16 (by intro z; cases z))]
            exact w29
        · rw [hgo, gat, List.length_append, List.length_singleton]
          rfl
    · rw [bookBad_ok c1 c2] at e
      cases hall : funsAll b (fs ++ [bs]) with
      | true => rw [hall] at e; cases e
      | false =>
        rw [hall] at e
        cases e
        refine eqTB T (.inl ⟨_, rfl, _, rfl, ?_⟩)
        rw [show decide (V.str BookPart.functions.str = V.str "FUNCTIONS") = true from by decide +kernel]
        have ebk : bookR ls = .bad (2 + fs.length) := by
          rw [hall] at gat
          rw [ebR, hgo.trans gat]
          rfl
        have w16 := s22 _ _ w15
        exact iteT ⟨_, rfl, p, dx9, _, rfl, w16, by rfl, p, ls, wh, 2 + fs.length, rfl, hln15.same s22, (k1 _ ebk).pre (s21.trans (Same.but s22)) w16⟩
end
end Km
set_option Elab.async false
set_option linter.all false
set_option maxRecDepth 100000
set_option maxHeartbeats 4000000
/-! reading plans -/
namespace Km
open PySem PySem.Spec PyProof.Rows L2
/-! ### plain -/
theorem rising_pw : ∀ {ns : List Nat}, ns.Pairwise (· < ·) → rising ns = true
  | [], _ => rfl
  | [_], _ => rfl
  | a :: b :: r, h => by
    obtain ⟨h1, h2⟩ := List.pairwise_cons.mp h
    show (decide (a < b) && rising (b :: r)) = true
    rw [rising_pw h2, decide_eq_true (h1 b (List.mem_cons_self ..))]
    rfl
theorem risOk_range (m : Nat) : risOk m (List.range m) = true := by
  unfold risOk
  rw [rising_pw List.pairwise_lt_range, Bool.and_true]
  exact List.all_eq_true.mpr fun n hn => decide_eq_true (List.mem_range.mp hn)
theorem planBad_th {b s m c : Nat} {ths : List (Mode × Tr)} (h1 : 1 ≤ c ∧ c ≤ 2) (hs : 1 ≤ s) : planBad b s m c ths none none none = if thAll b m c ths = false then some .things else none := by
  unfold planBad
  rw [if_neg (not_not_intro h1)]
  have e : (risOk s ((none : Option (List Nat)).getD (List.range s)) && !((none : Option (List Nat)).getD (List.range s)).isEmpty) = true := by
    rw [show (none : Option (List Nat)).getD (List.range s) = List.range s from rfl, risOk_range, Bool.true_and]
    cases s with
    | zero => omega
    | succ n => rw [List.range_succ]; simp
  rw [e, show (none : Option (List Nat)).getD (List.range m) = List.range m from rfl, risOk_range]
  rfl
theorem modeOf_str {l : List Nat} {mo : Mode} (h : modeOf l = some mo) : SX.S l = mo.str := by
  unfold modeOf at h
  split at h
  · rename_i e; cases h; subst e; decide +kernel
  · split at h
    · rename_i e; cases h; subst e; decide +kernel
    · split at h
      · rename_i e; cases h; subst e; decide +kernel
      · cases h
theorem modeOf_in (l : List Nat) : inV (.str (SX.S l)) [.str "kept", .str "again", .str "check"] = (modeOf l).isSome := by
  show ((("kept" : Str) == SX.S l) || ((("again" : Str) == SX.S l) || ((("check" : Str) == SX.S l) || false))) = _
  rw [show ("kept" : Str) = SX.S (cs "kept") from by decide +kernel, show ("again" : Str) = SX.S (cs "again") from by decide +kernel, show ("check" : Str) = SX.S (cs "check") from by decide +kernel, SX.S_beq_eq, SX.S_beq_eq, SX.S_beq_eq]
  unfold modeOf
  by_cases h1 : l = cs "kept"
  · rw [if_pos h1, decide_eq_true h1.symm]; rfl
  rw [if_neg h1, decide_eq_false (fun e => h1 e.symm)]
  by_cases h2 : l = cs "again"
  · rw [if_pos h2, decide_eq_true h2.symm]; rfl
  rw [if_neg h2, decide_eq_false (fun e => h2 e.symm)]
  by_cases h3 : l = cs "check"
  · rw [if_pos h3, decide_eq_true h3.symm]; rfl
  rw [if_neg h3, decide_eq_false (fun e => h3 e.symm)]
  rfl
def thStep (b m c : Nat) (ths : List (Mode × Tr)) : List (List Nat) → Option (Mode × Tr)
  | [md, x] => match modeOf md with
    | none => none
    | some mo => match treeOf x with
      | none => none
      | some t => if thAll b m c (ths ++ [(mo, t)]) = true then some (mo, t) else none
  | _ => none
theorem thStep_two (b m c : Nat) (ths : List (Mode × Tr)) (md x : List Nat) : thStep b m c ths [md, x] = (match modeOf md with
    | none => none
    | some mo => match treeOf x with
      | none => none
      | some t => if thAll b m c (ths ++ [(mo, t)]) = true then some (mo, t) else none) := rfl
theorem thStep_n1 {b m c : Nat} {ths : List (Mode × Tr)} {md x : List Nat} (h : modeOf md = none) : thStep b m c ths [md, x] = none := by rw [thStep_two, h]
theorem thStep_n2 {b m c : Nat} {ths : List (Mode × Tr)} {md x : List Nat} {mo : Mode} (h : modeOf md = some mo) (h2 : treeOf x = none) : thStep b m c ths [md, x] = none := by rw [thStep_two, h, h2]
theorem thStep_y {b m c : Nat} {ths : List (Mode × Tr)} {md x : List Nat} {mo : Mode} {t : Tr} (h : modeOf md = some mo) (h2 : treeOf x = some t) : thStep b m c ths [md, x] = if thAll b m c (ths ++ [(mo, t)]) = true then some (mo, t) else none := by rw [thStep_two, h, h2]
theorem thGo_cons {b m c : Nat} {ths : List (Mode × Tr)} {l x : List Nat} {ws ls : List (List Nat)} (h : cut 32 l = x :: ws) : thGo b m c ths (l :: ls) = if x = cs "thing" then (match thStep b m c ths ws with
    | none => (false, ths)
    | some p => thGo b m c (ths ++ [p]) ls) else (true, ths) := by
  rw [thGo, h]
  show (if x = cs "thing" then _ else _) = _
  by_cases hx : x = cs "thing"
  · rw [if_pos hx, if_pos hx]
    match ws with
    | [] => rfl
    | [_] => rfl
    | _ :: _ :: _ :: _ => rfl
    | [md, y] =>
      rw [thStep_two]
      dsimp only
      cases modeOf md with
      | none => rfl
      | some mo =>
        dsimp only
        cases treeOf y with
        | none => rfl
        | some t =>
          dsimp only
          by_cases ha : thAll b m c (ths ++ [(mo, t)]) = true
          · rw [if_pos ha, if_pos ha]
          · rw [if_neg ha, if_neg ha]
  · rw [if_neg hx, if_neg hx]
theorem thGo_at (b m c : Nat) (ths : List (Mode × Tr)) (ls : List (List Nat)) (i : Nat) : thGo b m c ths (ls.drop i) = if (wordsAt ls i).take 1 = [cs "thing"] then (match thStep b m c ths ((wordsAt ls i).drop 1) with
    | none => (false, ths)
    | some p => thGo b m c (ths ++ [p]) (ls.drop (i + 1))) else (true, ths) := by
  unfold wordsAt
  cases e : ls[i]? with
  | none =>
    have : ls.length ≤ i := List.getElem?_eq_none_iff.mp e
    rw [List.drop_of_length_le this]
    rfl
  | some l =>
    have hi := (List.getElem?_eq_some_iff.mp e).1
    rw [List.drop_eq_getElem_cons hi, show ls[i] = l from (List.getElem?_eq_some_iff.mp e).2]
    show _ = if (cut 32 l).take 1 = [cs "thing"] then (match thStep b m c ths ((cut 32 l).drop 1) with
      | none => (false, ths)
      | some p => thGo b m c (ths ++ [p]) (ls.drop (i + 1))) else (true, ths)
    cases e2 : cut 32 l with
    | nil => exact absurd e2 (cut_ne 32 l)
    | cons h ws =>
      rw [thGo_cons e2]
      by_cases hh : h = cs "thing"
      · rw [if_pos hh, if_pos (by rw [hh]; rfl)]
        rfl
      · rw [if_neg hh, if_neg (by intro z; exact hh (List.cons.inj z).1)]
section
variable {P : Program} {w : World} {K : PySem.W.Frag} {mg : Str → Option Value} {base : Heap}
theorem eqTP (T : Tx P K mg w) {x : V} {H : Hp} {z : Str} {Q : VK} {E : XK} (h : (∃ y, x = .str y ∧ Q (.bl (decide (V.str y = V.str z))) H) ∨ (∃ a dx l, x = .ref a ∧ H a = some (.ins (He.ga K "Plan") dx l) ∧ Q (.bl false) H)) :
    rEq x (.str z) H Q ∨ rEqOwn K (He.ga K "Plan") spPE E x (.str z) H Q := by
  rcases h with ⟨y, rfl, q⟩ | ⟨a, dx, l, rfl, h1, q⟩
  · exact .inl ⟨rfl, q⟩
  · exact .inr ⟨a, dx, _, z, rfl, rfl, h1, T.p.nf, .ref a, z, rfl, false, rfl, q⟩
/-! ### thing_lines -/
theorem scTL : FnScope ["lines", "book", "columns", "things", "words", "late"] ["lines", "book", "columns"] (defScope (top 58)) := ⟨rfl, rfl, rfl, by decide +kernel, rfl, by decide +kernel, by decide +kernel⟩
def spTL (K : PySem.W.Frag) : Sp := fun vs H Q E => ∃ (p : Addr) (bv : V) (ls : List (List Nat)) (wh : Bool) (i b s c : Nat) (fs : List (List Tr)), vs = [.ref p, bv, .int (c : Int)] ∧ LnAt K H p ls wh i ∧ Fit ls ∧ BookAt K H b s fs bv ∧ fs.length ≤ 3 ∧ 1 ≤ s ∧ s ≤ 3 ∧ (1 ≤ c ∧ c ≤ 2) ∧
  ((thGo b fs.length c [] (ls.drop i)).1 = false → BadAt K H p (i + (thGo b fs.length c [] (ls.drop i)).2.length) E) ∧
  ((thGo b fs.length c [] (ls.drop i)).1 = true → (thGo b fs.length c [] (ls.drop i)).2 = [] → BadAt K H p i E) ∧
  ((thGo b fs.length c [] (ls.drop i)).1 = true → (thGo b fs.length c [] (ls.drop i)).2 ≠ [] → thAll b fs.length c (thGo b fs.length c [] (ls.drop i)).2 = true → ∀ v H', SameBut p H H' → LnAt K H' p ls wh (i + (thGo b fs.length c [] (ls.drop i)).2.length) →
    ThingsAt K H' (thGo b fs.length c [] (ls.drop i)).2 v → SzT (thGo b fs.length c [] (ls.drop i)).2 → Q v H')
theorem ok_tl (T : Tx P K mg w) : CalX (L2.CX P w) P w K mg base 31 "thing_lines" (spTL K) := by
  refine cal_of T.dThingLines scTL (fun _ _ _ _ _ _ us hl => match us, hl with | [_, _, _], _ => rfl) (fun vs H Q E ⟨p, bv, ls, wh, i, b, s, c, fs, e, _⟩ => by rw [e]; rfl) ?_
  rintro f cdv A outer s H vs Q E hr ⟨p, bv, ls, wh, i, b, st, c, fs, rfl, hln, F, hbk, hfl, hs1, hs3, hc, k1, k2, k3⟩
  have nd := scTL.nd
  have Fm := T.r.f
  have B := Fm.B
  refine ⟨_, pss_cons (ps_set (i := 3) nd rfl (Or.inl rfl) (pe_tup pa_nil))
    (pss_cons (ps_while (passes_of rfl) (pt_cmpR (op_eqW hr.units) (pe_slice sl_list (pe_mx0 (ok_l1 T) T.L.c hr pass0 (pv 0)) po_none (po_some pe_int)) (pe_lst (pa_cons pe_str pa_nil)) (nomark _))
      (pss_cons (ps_set (i := 4) nd rfl (Or.inl rfl) (pe_mx0 (ok_l1 T) T.L.c hr pass0 (pv 0)))
      (pss_cons (ps_if (PW.pt (pw_or (pt_cmpR op_ne (pe_callB call_len (by rfl) B.len_ PySem.boot_len (pa_cons (pv 4) pa_nil)) pe_int (nomark _)) (pw_or1 (pt_cmpR op_notIn_seq (pe_ix ix_list (pv 4) pe_int (fun _ _ => rfl)) (pe_glob (by rfl) T.p.modes (show RelV (.ref (He.ga K "MODES")) _ from rfl)) (by rfl)))))
        (pss_one (ps_expr (pe_mx0 (ok_l2 T) T.L.c hr (passes_call (takes_of rfl rfl rfl rfl) (fun _ _ _ _ h => h)) (pv 0)))) pss_nil)
      (pss_cons (ps_set (i := 5) nd rfl (Or.inl rfl) (pe_tup (StX.pa_star (pv 3) (pa_cons (pe_tup (pa_cons (pe_ix ix_list (pv 4) pe_int (fun _ _ => rfl)) (pa_cons (pe_mx (ok_l4 T) T.L.c hr (passes_call (takes_of rfl rfl rfl rfl) (fun _ _ _ _ h => h)) (pv 0) (pa_cons (pe_ix ix_list (pv 4) pe_int (fun _ _ => rfl)) pa_nil)) pa_nil))) pa_nil))))
      (pss_cons (ps_if (pt_cmpR (OpR.or op_eq (op_eqOwn (ok_pe T.p) hr pass0)) (pe_cx (ok_tp T) hr pass0 (by rfl) (pa_cons (pv 1) (pa_cons (pv 2) (pa_cons (pv 5) (pa_cons pe_non (pa_cons pe_non (pa_cons pe_non pa_nil))))))) pe_str (nomark _)) (pss_one (ps_expr (pe_mx0 (ok_l2 T) T.L.c hr (passes_call (takes_of rfl rfl rfl rfl) (fun _ _ _ _ h => h)) (pv 0)))) pss_nil)
      (pss_cons (ps_set (i := 3) nd rfl (Or.inl rfl) (pv 5)) (pss_one (ps_fldaug (pv 0) pe_int in_add))))))))
    (pss_cons (ps_if (pt_cmpR (op_eqE hr.units0) (pv 3) (pe_tup pa_nil) (nomark _)) (pss_one (ps_expr (pe_mx0 (ok_l2 T) T.L.c hr (passes_call (takes_of rfl rfl rfl rfl) (fun _ _ _ _ h => h)) (pv 0)))) pss_nil)
    (pss_one (ps_ret (pv 3))))), ?_⟩
  generalize hG : thGo b fs.length c [] (ls.drop i) = G at k1 k2 k3
  refine ⟨Nat.zero_le _, fun u5 hu5 => ?_⟩
  have t7 := same_upd (o := .tup []) hu5
  have z5 := upd_same (H := H) (a := u5) (o := .tup [])
  have hln8 := hln.same t7
  have hbk8 := hbk.same t7
  have s13 : SameBut p H (upd H u5 (.tup [])) := Same.but t7
  generalize upd H u5 (.tup []) = H8 at z5 s13 hln8 hbk8
  refine ⟨fun m σ H' => ∃ ths tv x4 x5, σ = [some (.ref p), some bv, some (.int (c : Int)), some tv, x4, x5] ∧ SameBut p H H' ∧ LnAt K H' p ls wh (i + ths.length) ∧ ThingsAt K H' ths tv ∧ SzT ths ∧ BookAt K H' b st fs bv ∧
      G = thGo b fs.length c ths (ls.drop (i + ths.length)) ∧ m = ls.length - (i + ths.length) ∧ (ths = [] ∨ thAll b fs.length c ths = true), ⟨ls.length - i, [], .ref u5, none, none, rfl, s13, hln8, ⟨u5, [], rfl, z5, .nil⟩, (fun bs hb => by cases hb), hbk8, hG.symm, rfl, .inl rfl⟩, ?_⟩
  rintro m σ H9 ⟨ths, tv, x4, x5, rfl, s14, hln9, hths, hsz, hbk9, hgo, hm, hfa⟩
  have htl : ths.length ≤ 3 := by
    rcases hfa with rfl | h
    · decide
    · unfold thAll at h
      rw [Bool.and_eq_true, decide_eq_true_eq] at h
      exact h.1.2
  obtain ⟨dx9, a9, w1, w2⟩ := id hln9
  obtain ⟨wl, wx⟩ := F.wlen (i + ths.length)
  refine ⟨_, rfl, p, dx9, _, rfl, w1, by rfl, p, ls, wh, i + ths.length, rfl, hln9, F, fun q3 H10 s15 hq3 hq3v => ?_⟩
  refine ⟨_, rfl, q3, _, rfl, SqL.of hq3v, fun q4 hq4 => ⟨(by show 1 ≤ sizeLine; decide), fun q5 hq5 => ?_⟩⟩
  have e1 : cutV (wV (wordsAt ls (i + ths.length))) none (some 1) = wV ((wordsAt ls (i + ths.length)).take 1) := by
    rw [show (1 : Int) = ((1 : Nat) : Int) from rfl, cutVL_to, wV_take]
  rw [e1] at hq5 ⊢
  have r1 := same_upd (o := .lst (wV ((wordsAt ls (i + ths.length)).take 1))) hq4
  have r2 := same_upd (o := .lst [.str "thing"]) hq5
  have r3 := s15.trans (r1.trans r2)
  have y4 : SqL K (upd (upd H10 q4 (.lst (wV ((wordsAt ls (i + ths.length)).take 1)))) q5 (.lst [.str "thing"])) q4 (((wordsAt ls (i + ths.length)).take 1).map SX.S |>.map V.str) := by
    rw [← wV_str]
    exact SqL.of (r2 _ _ upd_same)
  have y5 : SqL K (upd (upd H10 q4 (.lst (wV ((wordsAt ls (i + ths.length)).take 1)))) q5 (.lst [.str "thing"])) q5 (([cs "thing"].map SX.S).map V.str) := SqL.of upd_same
  refine ⟨q4, q5, _, _, rfl, rfl, y4, y5, okS_all fun x hx => (wx x (List.mem_of_mem_take hx)).2.1, (by decide +kernel), _, rfl, ?_⟩
  rw [map_S_inj]
  generalize upd (upd H10 q4 (.lst (wV ((wordsAt ls (i + ths.length)).take 1)))) q5 (.lst [.str "thing"]) = H11 at r3
  have s16 := s14.trans (Same.but r3)
  have hln11 := hln9.same r3
  have w11 := r3 _ _ w1
  have hth11 := hths.same r3
  have hbk11 := hbk9.same r3
  have gat := thGo_at b fs.length c ths ls (i + ths.length)
  by_cases hw : (wordsAt ls (i + ths.length)).take 1 = [cs "thing"]
  case neg =>
    rw [decide_eq_false hw]
    rw [if_neg hw] at gat
    have gend : G = (true, ths) := hgo.trans gat
    subst gend
    refine ⟨_, rfl, Nat.zero_le _, fun u6 hu6 => ?_⟩
    have t8 := same_upd (o := .tup []) hu6
    obtain ⟨fa, fvs, rfl, hfa1, hfa2⟩ := id hth11
    refine ⟨fa, u6, _, rfl, rfl, .inl (.inl (t8 _ _ hfa1)), .inl (.inl upd_same), _, rfl, ?_⟩
    have hem : fvs.isEmpty = decide (ths = []) := by
      have := Paired.len hfa2
      cases ths with
      | nil => cases fvs with
        | nil => rfl
        | cons x y => cases this
      | cons x y => cases fvs with
        | nil => cases this
        | cons _ _ => rfl
    rw [hem]
    have s17 := s16.trans (Same.but t8)
    by_cases hnil : ths = []
    · rw [decide_eq_true hnil]
      subst hnil
      exact iteT ⟨_, rfl, p, dx9, _, rfl, t8 _ _ w11, by rfl, p, ls, wh, i, rfl, hln11.same t8, (k2 rfl rfl).pre s17 (t8 _ _ w11)⟩
    · rw [decide_eq_false hnil]
      exact iteF ⟨_, rfl, k3 rfl hnil (hfa.resolve_left hnil) (.ref fa) _ s17 (hln11.same t8) (hth11.same t8) hsz⟩
  rw [decide_eq_true hw]
  rw [if_pos hw] at gat
  have hat : i + ths.length < ls.length := by
    unfold wordsAt at hw
    cases e : ls[i + ths.length]? with
    | none => rw [e] at hw; cases hw
    | some l => exact (List.getElem?_eq_some_iff.mp e).1
  refine ⟨fun σ' H' => ∃ ths' tv x4 x5, σ' = [some (.ref p), some bv, some (.int (c : Int)), some tv, x4, x5] ∧ SameBut p H H' ∧ LnAt K H' p ls wh (i + ths'.length) ∧ ThingsAt K H' ths' tv ∧ SzT ths' ∧ BookAt K H' b st fs bv ∧
      G = thGo b fs.length c ths' (ls.drop (i + ths'.length)) ∧ ths'.length = ths.length + 1 ∧ thAll b fs.length c ths' = true, fun σ' H' ⟨ths', tv, x4, x5, e1, e2, e3, e4, e5, e6, e7, e8, e9⟩ => ⟨ls.length - (i + ths'.length), by omega, ths', tv, x4, x5, e1, e2, e3, e4, e5, e6, e7, rfl, .inr e9⟩, ?_⟩
  have badG : thStep b fs.length c ths ((wordsAt ls (i + ths.length)).drop 1) = none → BadAt K H p (i + ths.length) E := fun e => by
    rw [e] at gat
    have gend : G = (false, ths) := hgo.trans gat
    subst gend
    exact k1 rfl
  refine ⟨_, rfl, p, dx9, _, rfl, w11, by rfl, p, ls, wh, i + ths.length, rfl, hln11, F, fun q6 H12 s17 hq6 hq6v => ?_⟩
  have s18 := s16.trans (Same.but s17)
  have w12 := s17 _ _ w11
  have hln12 := hln11.same s17
  have wcons : wordsAt ls (i + ths.length) = cs "thing" :: (wordsAt ls (i + ths.length)).drop 1 := by
    cases e : wordsAt ls (i + ths.length) with
    | nil => rw [e] at hw; cases hw
    | cons x y =>
      rw [e] at hw
      rw [(List.cons.inj hw).1]
      rfl
  generalize hws : (wordsAt ls (i + ths.length)).drop 1 = ws at gat badG wcons
  rw [wcons] at hq6v wx
  refine ⟨_, rfl, .ref q6, _, rfl, .inl ⟨_, SqL.of hq6v, rfl⟩, rfl, _, rfl, ?_⟩
  rw [show (wV (cs "thing" :: ws)).length = ws.length + 1 from by simp [wV]]
  by_cases h3 : ws.length = 2
  case neg =>
    rw [show (!decide (V.int ((ws.length + 1 : Nat) : Int) = V.int 3)) = true from by
      rw [decide_eq_false]
      · rfl
      · intro h
        have := V.int.inj h
        omega]
    refine iteT (iteT ⟨_, rfl, p, dx9, _, rfl, w12, by rfl, p, ls, wh, i + ths.length, rfl, hln12, (badG ?_).pre s18 w12⟩)
    match ws, h3 with
    | [], _ => rfl
    | [_], _ => rfl
    | _ :: _ :: _ :: _, _ => rfl
    | [_, _], h => exact absurd rfl h
  rw [show (!decide (V.int ((ws.length + 1 : Nat) : Int) = V.int 3)) = false from by rw [h3]; rfl]
  obtain ⟨md, y, rfl⟩ : ∃ md y, ws = [md, y] := by
    match ws, h3 with
    | [a, b], _ => exact ⟨a, b, rfl⟩
  have hy := wx y (by simp)
  refine iteF ⟨_, rfl, q6, _, 1, _, rfl, rfl, SqL.of hq6v, atI_nat (j := 1) rfl, _, _, rfl, .inr (T.p.modesT _), rfl, by decide +kernel, _, rfl, ?_⟩
  rw [if_pos rfl, modeOf_in]
  cases hmo : modeOf md with
  | none => exact iteT ⟨_, rfl, p, dx9, _, rfl, w12, by rfl, p, ls, wh, i + ths.length, rfl, hln12, (badG (thStep_n1 hmo)).pre s18 w12⟩
  | some mo =>
    refine iteF ?_
    obtain ⟨fa, fvs, rfl, hfa1, hfa2⟩ := id (hth11.same s17)
    have hfv := Paired.len hfa2
    refine ⟨_, rfl, fa, fvs, rfl, .inl (.inl (.inl hfa1)), _, rfl, q6, _, 1, .str (SX.S md), rfl, rfl, SqL.of hq6v, atI_nat (j := 1) rfl, _, rfl, p, dx9, _, rfl, w12, by rfl, _, rfl, q6, _, 2, _, rfl, rfl, SqL.of hq6v, atI_nat (j := 2) rfl, p, y, ls, wh, i + ths.length, rfl, hln12, hy.1, hy.2.2, fun t et v H13 s19 hf => ?_, fun et => ?_⟩
    case refine_2 => exact (badG (thStep_n2 hmo et)).pre s18 w12
    refine ⟨(by show 2 ≤ sizeLine; decide), fun u7 hu7 => ⟨by rw [List.length_append, List.length_singleton, sizeLine_eq]; omega, fun u8 hu8 => ?_⟩⟩
    have t9 := same_upd (o := .tup [.str (SX.S md), v]) hu7
    have t10 := same_upd (o := .tup (fvs ++ [.ref u7])) hu8
    have s20 := s19.trans (t9.trans t10)
    have x7 : upd (upd H13 u7 (.tup [.str (SX.S md), v])) u8 (.tup (fvs ++ [.ref u7])) u7 = some (.tup [.str (SX.S md), v]) := t10 _ _ upd_same
    have x8 := upd_same (H := upd H13 u7 (.tup [.str (SX.S md), v])) (a := u8) (o := .tup (fvs ++ [.ref u7]))
    have hf := hf.same (t9.trans t10)
    rw [modeOf_str hmo] at x7
    rw [modeOf_str hmo] at x8 hf s20
    rw [modeOf_str hmo]
    generalize upd (upd H13 u7 (.tup [.str mo.str, v])) u8 (.tup (fvs ++ [.ref u7])) = H15 at s20 x7 x8 hf
    have s21 := s18.trans (Same.but s20)
    have r6 := s17.trans s20
    have w15 := r6 _ _ w11
    have hln15 := hln11.same r6
    have hbk15 := hbk11.same r6
    have hth15 : ThingsAt K H15 (ths ++ [(mo, t)]) (.ref u8) := ⟨u8, _, rfl, x8, Paired.app (L2.Paired.mapP hfa2 fun _ _ h => h.same s20) (.cons ⟨u7, v, rfl, x7, hf⟩ .nil)⟩
    have hsz15 : SzT (ths ++ [(mo, t)]) := fun q hq => by
      rcases List.mem_append.mp hq with hq | hq
      · exact hsz q hq
      · rw [List.mem_singleton.mp hq]
        exact treeOf_sz et
    refine ⟨_, rfl, _, rfl, _, rfl, bv, .ref u8, .non, .non, .non, b, st, c, fs, ths ++ [(mo, t)], none, none, none, rfl, hbk15, by omega, by omega, hth15, by rw [List.length_append, List.length_singleton]; omega, hsz15, rfl, rfl, rfl, fun e a dx l H16 s22 ha => ?_, fun z e H16 s22 => ?_⟩
    · rw [planBad_th hc hs1] at e
      cases hall : thAll b fs.length c (ths ++ [(mo, t)]) with
      | false => rw [hall] at e; cases e
      | true =>
        have est : thStep b fs.length c ths [md, y] = some (mo, t) := (thStep_y hmo et).trans (if_pos hall)
        rw [est] at gat
        refine eqTP T (.inr ⟨a, dx, l, rfl, ha, false, rfl, iteF ?_⟩)
        have w16 := s22 _ _ w15
        refine ⟨_, rfl, _, rfl, p, _, dx9, _, _, rfl, w16, T.L.c, T.nA, lf_at _ _ _, _, _, rfl, rfl, dx9, _, w16, (by show 3 < 1000; decide), ?_⟩
        have sb : SameBut p H16 (upd H16 p (.ins (He.ga K "Lines") dx9 (putF "at" (.int (((i + ths.length : Nat) : Int) + 1)) (lf a9 wh (i + ths.length))))) := but_upd SameBut.refl
        refine ⟨ths ++ [(mo, t)], .ref u8, _, _, rfl, (s21.trans (Same.but s22)).trans sb, ?_, (hth15.same s22).but2 sb w16 (by show 3 ≠ 1; decide), hsz15, (hbk15.same s22).but2 sb w16 (by show 3 ≠ 1; decide), ?_, by simp, hall⟩
        · refine ⟨dx9, a9, ?_, ?_⟩
          · rw [upd_same, lf_put, List.length_append, List.length_singleton]
            rfl
          · have w29 := (r6.trans s22) _ _ (r3 _ _ w2)
            rw [upd_ne (ne_of w29 w16 (by intro z; cases z))]
            exact w29
        · rw [hgo, gat, List.length_append, List.length_singleton]
          rfl
    · rw [planBad_th hc hs1] at e
      cases hall : thAll b fs.length c (ths ++ [(mo, t)]) with
      | true => rw [hall] at e; cases e
      | false =>
        rw [hall] at e
        cases e
        refine eqTP T (.inl ⟨_, rfl, _, rfl, ?_⟩)
        rw [show decide (V.str PlanPart.things.str = V.str "THINGS") = true from by decide +kernel]
        have w16 := s22 _ _ w15
        exact iteT ⟨_, rfl, p, dx9, _, rfl, w16, by rfl, p, ls, wh, i + ths.length, rfl, hln15.same s22, (badG ((thStep_y hmo et).trans (if_neg (by rw [hall]; decide)))).pre (s21.trans (Same.but s22)) w16⟩
end
end Km
set_option Elab.async false
set_option linter.all false
set_option maxRecDepth 100000
set_option maxHeartbeats 4000000
/-! read_book and read_plan -/
namespace Km
open PySem PySem.Spec PyProof.Rows L2
/-! ### plain -/
def kwI : Nat → List Nat
  | 0 => cs "free"
  | 1 => cs "writers"
  | _ => cs "askers"
def partI : Nat → PlanPart
  | 0 => .free
  | 1 => .writers
  | _ => .askers
def mI (m s : Nat) : Nat → Nat
  | 0 => m
  | _ => s
def eI : Nat → Bool
  | 0 => true
  | _ => false
def okI (m s i : Nat) (ns : List Nat) : Bool := risOk (mI m s i) ns && (eI i || !ns.isEmpty)
def skI (m s : Nat) (ls : List (List Nat)) (a i : Nat) : Bool := someOk (kwI i) (mI m s i) (eI i) ls[a + i]?
theorem skI_none {m s a i : Nat} {ls : List (List Nat)} (h : takeL (kwI i) ls[a + i]? = none) : skI m s ls a i = false := by unfold skI someOk; rw [h]
theorem skI_some {m s a i : Nat} {ls : List (List Nat)} {ns : List Nat} (h : takeL (kwI i) ls[a + i]? = some ns) : skI m s ls a i = okI m s i ns := by unfold skI someOk okI; rw [h]
def tailAt (m s : Nat) (ls : List (List Nat)) (wh : Bool) (a : Nat) : Option Nat :=
  if skI m s ls a 0 = false then some (a + 0) else if skI m s ls a 1 = false then some (a + 1) else if skI m s ls a 2 = false then some (a + 2) else if a + 3 < ls.length ∨ wh = false then some (a + 3) else none
theorem planAt_tail {ls : List (List Nat)} {wh : Bool} {b s c : Nat} {fs : List (List Tr)} (h1 : bookR ls = .ok b s fs) (h2 : take1 (cs "columns") ls[2 + fs.length]? = some c) (h3 : 1 ≤ c ∧ c ≤ 2) (h4 : (thGo b fs.length c [] (ls.drop (3 + fs.length))).1 = true) (h5 : (thGo b fs.length c [] (ls.drop (3 + fs.length))).2 ≠ []) :
    planAt ls wh = tailAt fs.length s ls wh (3 + fs.length + (thGo b fs.length c [] (ls.drop (3 + fs.length))).2.length) := by
  unfold planAt
  rw [h1]
  dsimp only
  rw [h2]
  dsimp only
  rw [if_neg (not_not_intro h3), if_neg (by rw [h4]; decide), if_neg h5]
  rfl
theorem planAt_bad {ls : List (List Nat)} {wh : Bool} {a : Nat} (h1 : bookR ls = .bad a) : planAt ls wh = some a := by unfold planAt; rw [h1]
theorem planAt_col {ls : List (List Nat)} {wh : Bool} {b s : Nat} {fs : List (List Tr)} (h1 : bookR ls = .ok b s fs) (h2 : take1 (cs "columns") ls[2 + fs.length]? = none) : planAt ls wh = some (2 + fs.length) := by
  unfold planAt; rw [h1]; dsimp only; rw [h2]
theorem planAt_col2 {ls : List (List Nat)} {wh : Bool} {b s c : Nat} {fs : List (List Tr)} (h1 : bookR ls = .ok b s fs) (h2 : take1 (cs "columns") ls[2 + fs.length]? = some c) (h3 : ¬ (1 ≤ c ∧ c ≤ 2)) : planAt ls wh = some (2 + fs.length) := by
  unfold planAt; rw [h1]; dsimp only; rw [h2]; dsimp only; rw [if_pos h3]
theorem planAt_th {ls : List (List Nat)} {wh : Bool} {b s c : Nat} {fs : List (List Tr)} (h1 : bookR ls = .ok b s fs) (h2 : take1 (cs "columns") ls[2 + fs.length]? = some c) (h3 : 1 ≤ c ∧ c ≤ 2) (h4 : (thGo b fs.length c [] (ls.drop (3 + fs.length))).1 = false) :
    planAt ls wh = some (3 + fs.length + (thGo b fs.length c [] (ls.drop (3 + fs.length))).2.length) := by
  unfold planAt; rw [h1]; dsimp only; rw [h2]; dsimp only; rw [if_neg (not_not_intro h3), if_pos h4]
theorem planAt_th0 {ls : List (List Nat)} {wh : Bool} {b s c : Nat} {fs : List (List Tr)} (h1 : bookR ls = .ok b s fs) (h2 : take1 (cs "columns") ls[2 + fs.length]? = some c) (h3 : 1 ≤ c ∧ c ≤ 2) (h4 : (thGo b fs.length c [] (ls.drop (3 + fs.length))).1 = true) (h5 : (thGo b fs.length c [] (ls.drop (3 + fs.length))).2 = []) :
    planAt ls wh = some (3 + fs.length) := by
  unfold planAt; rw [h1]; dsimp only; rw [h2]; dsimp only; rw [if_neg (not_not_intro h3), if_neg (by rw [h4]; decide), if_pos h5]
theorem tailAt_bad {m s a i : Nat} {ls : List (List Nat)} {wh : Bool} (hi : i < 3) (h : ∀ j < i, skI m s ls a j = true) (hb : skI m s ls a i = false) : tailAt m s ls wh a = some (a + i) := by
  unfold tailAt
  match i, hi with
  | 0, _ => rw [if_pos hb]
  | 1, _ => rw [if_neg (by rw [h 0 (by decide)]; decide), if_pos hb]
  | 2, _ => rw [if_neg (by rw [h 0 (by decide)]; decide), if_neg (by rw [h 1 (by decide)]; decide), if_pos hb]
theorem tailAt_ok {m s a : Nat} {ls : List (List Nat)} {wh : Bool} (h : ∀ j < 3, skI m s ls a j = true) : tailAt m s ls wh a = if a + 3 < ls.length ∨ wh = false then some (a + 3) else none := by
  unfold tailAt
  rw [if_neg (by rw [h 0 (by decide)]; decide), if_neg (by rw [h 1 (by decide)]; decide), if_neg (by rw [h 2 (by decide)]; decide)]
theorem rng_ok {s : Nat} (hs : 1 ≤ s) : (risOk s (List.range s) && !(List.range s).isEmpty) = true := by
  rw [risOk_range, Bool.true_and]
  cases s with
  | zero => omega
  | succ n => rw [List.range_succ]; simp
theorem planBad_I {b s m c i : Nat} {ths : List (Mode × Tr)} {nss : List (List Nat)} {ns : List Nat} (h1 : 1 ≤ c ∧ c ≤ 2) (hs : 1 ≤ s) (ht : thAll b m c ths = true) (hi : i < 3) (hl : nss.length = i) (ho : ∀ j n, nss[j]? = some n → okI m s j n = true) :
    planBad b s m c ths (nss ++ [ns])[0]? (nss ++ [ns])[1]? (nss ++ [ns])[2]? = if okI m s i ns = false then some (partI i) else none := by
  unfold planBad
  rw [if_neg (not_not_intro h1), if_neg (by rw [ht]; decide)]
  match i, nss, hi, hl with
  | 0, [], _, _ =>
    rw [show okI m s 0 ns = risOk m ns from Bool.and_true _]
    show (if risOk m ns = false then _ else if (risOk s (List.range s) && !(List.range s).isEmpty) = false then _ else if (risOk s (List.range s) && !(List.range s).isEmpty) = false then _ else _) = _
    rw [rng_ok hs]
    rfl
  | 1, [n0], _, _ =>
    have o0 := ho 0 n0 rfl
    rw [show okI m s 0 n0 = risOk m n0 from Bool.and_true _] at o0
    show (if risOk m n0 = false then _ else if (risOk s ns && !ns.isEmpty) = false then _ else if (risOk s (List.range s) && !(List.range s).isEmpty) = false then _ else _) = if (risOk s ns && !ns.isEmpty) = false then _ else _
    rw [rng_ok hs, o0]
    rfl
  | 2, [n0, n1], _, _ =>
    have o0 := ho 0 n0 rfl
    have o1 := ho 1 n1 rfl
    rw [show okI m s 0 n0 = risOk m n0 from Bool.and_true _] at o0
    have o1 : (risOk s n1 && !n1.isEmpty) = true := o1
    show (if risOk m n0 = false then _ else if (risOk s n1 && !n1.isEmpty) = false then _ else if (risOk s ns && !ns.isEmpty) = false then _ else _) = if (risOk s ns && !ns.isEmpty) = false then _ else _
    rw [o0, o1]
    rfl
theorem planBad_3 {b s m c : Nat} {ths : List (Mode × Tr)} {nss : List (List Nat)} (h1 : 1 ≤ c ∧ c ≤ 2) (hs : 1 ≤ s) (ht : thAll b m c ths = true) (hl : nss.length = 3) (ho : ∀ j n, nss[j]? = some n → okI m s j n = true) :
    planBad b s m c ths nss[0]? nss[1]? nss[2]? = none := by
  match nss, hl with
  | [n0, n1, n2], _ =>
    have := planBad_I (nss := [n0, n1]) (ns := n2) (i := 2) (b := b) h1 hs ht (by decide) rfl (fun j n hn => ho j n (by
      match j, hn with
      | 0, hn => exact hn
      | 1, hn => exact hn))
    rw [if_neg (by rw [ho 2 n2 rfl]; decide)] at this
    exact this
theorem filled_at {xs : List V} (hl : xs.length ≤ 3) {j : Nat} (hj : j < 3) : (xs ++ (List.replicate (3 - (xs.length : Int)).toNat [V.non]).flatten)[j]? = some (xs[j]?.getD .non) := by
  match xs, hl, j, hj with
  | [], _, 0, _ => rfl
  | [], _, 1, _ => rfl
  | [], _, 2, _ => rfl
  | [_], _, 0, _ => rfl
  | [_], _, 1, _ => rfl
  | [_], _, 2, _ => rfl
  | [_, _], _, 0, _ => rfl
  | [_, _], _, 1, _ => rfl
  | [_, _], _, 2, _ => rfl
  | [_, _, _], _, 0, _ => rfl
  | [_, _, _], _, 1, _ => rfl
  | [_, _, _], _, 2, _ => rfl
theorem kwI_asc (i : Nat) : Asc (kwI i) := by
  match i with
  | 0 => unfold Asc; decide +kernel
  | 1 => unfold Asc; decide +kernel
  | _ + 2 => show Asc (cs "askers"); unfold Asc; decide +kernel
theorem funsGo_all {b : Nat} : ∀ {fs : List (List Tr)} {ls : List (List Nat)}, (fs = [] ∨ funsAll b fs = true) → (funsGo b fs ls).2 = [] ∨ funsAll b (funsGo b fs ls).2 = true
  | fs, [], h => by rw [funsGo]; exact h
  | fs, l :: ls, h => by
    cases e : cut 32 l with
    | nil => exact absurd e (cut_ne 32 l)
    | cons x ws =>
      rw [funsGo_cons e]
      split
      · cases treesOf ws with
        | none => exact h
        | some bs =>
          dsimp only
          split
          · exact funsGo_all (.inr (by assumption))
          · exact h
      · exact h
theorem bookR_ok {ls : List (List Nat)} {b s : Nat} {fs : List (List Tr)} (h : bookR ls = .ok b s fs) : (2 ≤ b ∧ b ≤ 3) ∧ (1 ≤ s ∧ s ≤ b) ∧ fs ≠ [] ∧ funsAll b fs = true := by
  unfold bookR at h
  split at h
  · cases h
  · split at h
    · cases h
    · rename_i c1
      split at h
      · cases h
      · split at h
        · cases h
        · rename_i c2
          split at h
          · split at h
            · cases h
            · rename_i hne
              cases h
              exact ⟨Decidable.not_not.mp c1, Decidable.not_not.mp c2, hne, (funsGo_all (.inl rfl)).resolve_left hne⟩
          · cases h
theorem funsAll_le {b : Nat} {fs : List (List Tr)} (h : funsAll b fs = true) : fs.length ≤ 3 := by
  unfold funsAll at h
  rw [Bool.and_eq_true, decide_eq_true_eq] at h
  exact h.1.2
theorem thGo_all {b m c : Nat} : ∀ {ths : List (Mode × Tr)} {ls : List (List Nat)}, (ths = [] ∨ thAll b m c ths = true) → (thGo b m c ths ls).2 = [] ∨ thAll b m c (thGo b m c ths ls).2 = true
  | ths, [], h => by rw [thGo]; exact h
  | ths, l :: ls, h => by
    cases e : cut 32 l with
    | nil => exact absurd e (cut_ne 32 l)
    | cons x ws =>
      rw [thGo_cons e]
      split
      · cases e2 : thStep b m c ths ws with
        | none => exact h
        | some p =>
          refine thGo_all (.inr ?_)
          unfold thStep at e2
          split at e2
          · split at e2
            · cases e2
            · split at e2
              · cases e2
              · split at e2
                · cases e2
                  assumption
                · cases e2
          · cases e2
      · exact h
theorem thAll_le {b m c : Nat} {ths : List (Mode × Tr)} (h : thAll b m c ths = true) : ths.length ≤ 3 := by
  unfold thAll at h
  rw [Bool.and_eq_true, decide_eq_true_eq] at h
  exact h.1.2
def wordI : Nat → Str
  | 0 => "free"
  | 1 => "writers"
  | _ => "askers"
theorem wordI_S (i : Nat) : V.str (wordI i) = .str (SX.S (kwI i)) := by
  match i with
  | 0 => exact congrArg V.str (show wordI 0 = SX.S (kwI 0) by decide +kernel)
  | 1 => exact congrArg V.str (show wordI 1 = SX.S (kwI 1) by decide +kernel)
  | _ + 2 => exact congrArg V.str (show wordI 2 = SX.S (kwI 2) by decide +kernel)
theorem takeM_none (k : List Nat) (l : Option (List Nat)) : takeM k false l = takeL k l := by
  unfold takeM
  cases takeL k l with
  | none => rfl
  | some ns => exact if_neg (by intro h; cases h.1)
/-- all but lists stays -/
def Keep (H H' : Hp) : Prop := ∀ b o, H b = some o → (∀ xs, o ≠ .lst xs) → H' b = some o
theorem Keep.lst {H : Hp} {l : Addr} {xs ys : List V} (h : H l = some (.lst xs)) : Keep H (upd H l (.lst ys)) := fun b o e n => by
  rw [upd_ne (ne_of e h (fun z => n xs z))]
  exact e
theorem Keep.tups {H H' : Hp} (k : Keep H H') : Tups H H' := fun b xs e => k _ _ e (fun _ z => by cases z)
section
variable {P : Program} {w : World} {K : PySem.W.Frag} {mg : Str → Option Value} {base : Heap}
theorem FormAt.keep {H H' : Hp} {t : Tr} {v : V} (h : FormAt K H t v) (k : Keep H H') : FormAt K H' t v := by
  obtain ⟨a, dx, u, e, ha, ht⟩ := h
  exact ⟨a, dx, u, e, k _ _ ha (fun _ z => by cases z), ht.tups k.tups⟩
theorem FunsAt.keep {H H' : Hp} {fs : List (List Tr)} {v : V} (h : FunsAt K H fs v) (k : Keep H H') : FunsAt K H' fs v := by
  obtain ⟨a, ws, e, ha, ht⟩ := h
  refine ⟨a, ws, e, k.tups _ _ ha, L2.Paired.mapP ht fun bs x h => ?_⟩
  obtain ⟨a, ws, e, ha, ht⟩ := h
  exact ⟨a, ws, e, k.tups _ _ ha, L2.Paired.mapP ht fun _ _ h => h.keep k⟩
theorem BookAt.keep {H H' : Hp} {b st : Nat} {fs : List (List Tr)} {v : V} (h : BookAt K H b st fs v) (k : Keep H H') : BookAt K H' b st fs v := by
  obtain ⟨a, dx', q, u, e, h1, h2, h3⟩ := h
  exact ⟨a, dx', q, u, e, k _ _ h1 (fun _ z => by cases z), k.tups _ _ h2, h3.keep k⟩
theorem ThingsAt.keep {H H' : Hp} {ths : List (Mode × Tr)} {v : V} (h : ThingsAt K H ths v) (k : Keep H H') : ThingsAt K H' ths v := by
  obtain ⟨a, ws, e, ha, ht⟩ := h
  refine ⟨a, ws, e, k.tups _ _ ha, L2.Paired.mapP ht fun bs x h => ?_⟩
  obtain ⟨a, u, e, ha, ht⟩ := h
  exact ⟨a, u, e, k.tups _ _ ha, ht.keep k⟩
theorem LnAt.lstU {H : Hp} {p l : Addr} {ls : List (List Nat)} {wh : Bool} {i : Nat} {xs ys : List V} (h : LnAt K H p ls wh i) (hl : H l = some (.lst xs)) (hn : xs ≠ wV ls) : LnAt K (upd H l (.lst ys)) p ls wh i := by
  obtain ⟨dx, a, h1, h2⟩ := h
  exact ⟨dx, a, (by rw [upd_ne (ne_of h1 hl (by intro z; cases z))]; exact h1), (by rw [upd_ne (ne_of h2 hl (by intro z; cases z; exact hn rfl))]; exact h2)⟩
theorem opt_of {H : Hp} {nss : List (List Nat)} {vs : List V} (h : Paired (TupN H) nss vs) (hn : ∀ n ∈ nss, n.length ≤ 1000) (j : Nat) : OptAt H nss[j]? (vs[j]?.getD .non) := by
  have hl := Paired.len h
  cases e : nss[j]? with
  | none =>
    have : nss.length ≤ j := List.getElem?_eq_none_iff.mp e
    rw [List.getElem?_eq_none (by omega)]
    rfl
  | some n =>
    have hj := (List.getElem?_eq_some_iff.mp e).1
    rw [List.getElem?_eq_getElem (by omega)]
    exact ⟨Paired.at h e (List.getElem?_eq_getElem (by omega)), hn n (List.mem_of_getElem? e)⟩
theorem digs_le {ls : List (List Nat)} (F : Fit ls) {k : List Nat} {i : Nat} {ns : List Nat} (h : takeL k ls[i]? = some ns) : ns.length ≤ 1000 := by
  rw [takeL_words] at h
  split at h
  · have := digs_len h
    unfold wordsAt at this
    cases e : ls[i]? with
    | none =>
      rw [e] at this
      have : ns.length = 0 := this
      omega
    | some l =>
      rw [e] at this
      dsimp only at this
      rw [List.length_drop] at this
      have h1 := cut_count (c := 32) l
      have h2 := F.len l (List.mem_of_getElem? e)
      omega
  · cases h
/-! ### read_book -/
theorem scRB : FnScope ["text", "lines", "found"] ["text"] (defScope (top 56)) := ⟨rfl, rfl, rfl, by decide +kernel, rfl, by decide +kernel, by decide +kernel⟩
/-- BadText(i) flies, nothing else happened -/
def FliesT (K : PySem.W.Frag) (H : Hp) (i : Nat) (E : XK) : Prop := ∀ d H', Same H H' → H d = none → H' d = some (.xd [("row", .int (i : Int))]) → E (.ref (He.ga K "BadText")) (some d) H'
def spRB (K : PySem.W.Frag) : Sp := fun vs H Q E => ∃ (l : List Nat), vs = [.str (SX.S l)] ∧ l.length ≤ 100000 ∧ Fit (linesOf l) ∧ (∀ a, bookAt (linesOf l) (wholeOf l) = some a → FliesT K H a E) ∧
  (bookAt (linesOf l) (wholeOf l) = none → ∀ a dx x H', Same H H' → H' a = some (.ins (He.ga K "Book") dx x) → Q (.ref a) H')
theorem ok_rb (T : Tx P K mg w) : CalX (L2.CX P w) P w K mg base 32 "read_book" (spRB K) := by
  refine cal_of T.dReadBook scRB (fun _ _ _ _ _ _ us hl => match us, hl with | [_], _ => rfl) (fun vs H Q E ⟨l, e, _⟩ => by rw [e]; rfl) ?_
  rintro f cdv A outer s H vs Q E hr ⟨l, rfl, hl, F, k1, k2⟩
  have nd := scRB.nd
  refine ⟨_, pss_cons (ps_set (i := 1) nd rfl (Or.inl rfl) (pe_kx (ok_l0 T) hr pass0 (by rfl) (pa_cons (pv 0) pa_nil)))
    (pss_cons (ps_set (i := 2) nd rfl (Or.inl rfl) (pe_cx (ok_bl T) hr (passes_call (takes_of rfl rfl rfl rfl) (fun _ _ _ _ h => h)) (by rfl) (pa_cons (pv 1) pa_nil)))
    (pss_cons (ps_expr (pe_mx0 (ok_l5 T) T.L.c hr (passes_call (takes_of rfl rfl rfl rfl) (fun _ _ _ _ h => h)) (pv 1)))
    (pss_one (ps_ret (pv 2))))), ?_⟩
  refine ⟨_, rfl, fun p dx hp hdx hne => ?_⟩
  have s0 : Same H (upd (upd H dx (.own p)) p (.ins (He.ga K "Lines") dx [])) := fun b o e => by
    rw [upd_ne (ne_of_none e hp), upd_ne (ne_of_none e hdx)]
    exact e
  refine ⟨p, dx, l, rfl, upd_same, hl, fun H1 s1 hln => ⟨rfl, ?_⟩⟩
  have s2 : Same H H1 := fun b o e => s1 b o (ne_of_none e hp) (s0 _ _ e)
  have bad : ∀ {H2 : Hp} {a : Nat}, SameBut p H1 H2 → bookAt (linesOf l) (wholeOf l) = some a → BadAt K H2 p a E := fun s3 e d H' s4 hd hx => by
    have s5 : Same H H' := fun b o e => (s3.trans s4) b o (ne_of_none e hp) (s2 _ _ e)
    refine k1 _ e d H' s5 ?_ hx
    cases e : H d with
    | none => rfl
    | some o =>
      have := s3 d o (ne_of_none e hp) (s2 _ _ e)
      rw [hd] at this
      cases this
  refine ⟨_, rfl, p, _, _, rfl, hln, F, fun a e => bad SameBut.refl (by unfold bookAt; rw [e]), fun b st fs e v H2 s3 hln2 hbk => ?_⟩
  obtain ⟨dx2, a2, x1, x2⟩ := id hln2
  have eB : bookAt (linesOf l) (wholeOf l) = if 2 + fs.length < (linesOf l).length ∨ wholeOf l = false then some (2 + fs.length) else none := by unfold bookAt; rw [e]
  refine ⟨_, rfl, p, dx2, _, rfl, x1, by rfl, p, _, _, _, rfl, hln2, fun c => ?_, fun c => bad s3 (eB.trans (if_pos c))⟩
  obtain ⟨a, dxb, q, u, rfl, h1, h2, h3⟩ := id hbk
  exact ⟨_, rfl, k2 (eB.trans (if_neg c)) a dxb _ H2 (fun b o e => s3 b o (ne_of_none e hp) (s2 _ _ e)) h1⟩
/-! ### read_plan -/
theorem scRP : FnScope ["text", "lines", "book", "columns", "things", "rest", "word", "part", "filled"] ["text"] (defScope (top 59)) := ⟨rfl, rfl, rfl, by decide +kernel, rfl, by decide +kernel, by decide +kernel⟩
def spRP (K : PySem.W.Frag) : Sp := fun vs H Q E => ∃ (l : List Nat), vs = [.str (SX.S l)] ∧ l.length ≤ 100000 ∧ Fit (linesOf l) ∧ (∀ a, planAt (linesOf l) (wholeOf l) = some a → FliesT K H a E) ∧
  (planAt (linesOf l) (wholeOf l) = none → ∀ a dx x H', Same H H' → H' a = some (.ins (He.ga K "Plan") dx x) → Q (.ref a) H')
theorem ok_rp (T : Tx P K mg w) : CalX (L2.CX P w) P w K mg base 33 "read_plan" (spRP K) := by
  refine cal_of T.dReadPlan scRP (fun _ _ _ _ _ _ us hl => match us, hl with | [_], _ => rfl) (fun vs H Q E ⟨l, e, _⟩ => by rw [e]; rfl) ?_
  rintro f cdv A outer s H vs Q E hr ⟨l, rfl, hl, F, k1, k2⟩
  have nd := scRP.nd
  have Fm := T.r.f
  have B := Fm.B
  have bw := ok_between (P := P) (w := w) (K := K) (base := base) B Fm.dBetween
  obtain ⟨q, fI, eT⟩ := T.r.eT
  obtain ⟨fp, fdp, D, g, M⟩ := T.p.iPlan
  have PB := ok_planB (P := P) (w := w) (mg := mg) (base := base) T.p D
  obtain ⟨mv, kb⟩ := plan_binds D
  refine ⟨_, pss_cons (ps_set (i := 1) nd rfl (Or.inl rfl) (pe_kx (ok_l0 T) hr pass0 (by rfl) (pa_cons (pv 0) pa_nil)))
    (pss_cons (ps_set (i := 2) nd rfl (Or.inl rfl) (pe_cx (ok_bl T) hr (passes_call (takes_of rfl rfl rfl rfl) (fun _ _ _ _ h => h)) (by rfl) (pa_cons (pv 1) pa_nil)))
    (pss_cons (ps_set (i := 3) nd rfl (Or.inl rfl) (pe_ix ix_list (pe_mx (ok_l3 T) T.L.c hr (passes_call (takes_of rfl rfl rfl rfl) (fun _ _ _ _ h => h)) (pv 1) (pa_cons pe_str (pa_cons pe_int pa_nil))) pe_int (fun _ _ => rfl)))
    (pss_cons (ps_if (pt_not (pt_val (pe_cx bw hr pass0 (by rfl) (pa_cons (pv 3) (pa_cons pe_int (pa_cons pe_int pa_nil)))))) (pss_one (ps_raiseSup rfl eT (room_rec hr) (takes_of rfl rfl rfl rfl) (pa_cons (pe_op op_sub (pe_fld (pv 1) rfl) pe_int) pa_nil) (by rfl))) pss_nil)
    (pss_cons (ps_set (i := 4) nd rfl (Or.inl rfl) (pe_cx (ok_tl T) hr (passes_call (takes_of rfl rfl rfl rfl) (fun _ _ _ _ h => h)) (by rfl) (pa_cons (pv 1) (pa_cons (pv 2) (pa_cons (pv 3) pa_nil)))))
    (pss_cons (ps_set (i := 5) nd rfl (Or.inl rfl) (pe_lst pa_nil))
    (pss_cons (ps_for (passes_of rfl) rfl (pi_tup (pe_tup (pa_cons (pe_tup (pa_cons pe_str (pa_cons pe_str pa_nil))) (pa_cons (pe_tup (pa_cons pe_str (pa_cons pe_str pa_nil))) (pa_cons (pe_tup (pa_cons pe_str (pa_cons pe_str pa_nil))) pa_nil))))) (pg_tup rfl (pgs_cons (pg_name (i := 6) nd rfl (Or.inl rfl)) (pgs_cons (pg_name (i := 7) nd rfl (Or.inl rfl)) pgs_nil)))
      (pss_cons (ps_expr (pe_bm PySem.F.plainAttrs_list PySem.F.slot_list_append PySem.F.type_list_append mt_append (pv 5) (pa_cons (pe_callTy call_tuple_of (by rfl) B.tuple_ (by decide +kernel) (pa_cons (pe_mx (ok_l3 T) T.L.c hr (passes_call (takes_of rfl rfl rfl rfl) (fun _ _ _ _ h => h)) (pv 1) (pa_cons (pv 6) (pa_cons pe_non pa_nil))) pa_nil)) pa_nil)))
      (pss_cons (ps_set (i := 8) nd rfl (Or.inl rfl) (pe_op op_cat (pv 5) (pe_op op_rep (pe_lst (pa_cons pe_non pa_nil)) (pe_op op_sub pe_int (pe_callB call_len (by rfl) B.len_ PySem.boot_len (pa_cons (pv 5) pa_nil))))))
      (pss_one (ps_if (pt_cmpR (OpR.or op_eq (op_eqOwn (ok_pe T.p) hr pass0)) (pe_cx (ok_tp T) hr pass0 (by rfl) (pa_cons (pv 2) (pa_cons (pv 3) (pa_cons (pv 4) (pa_cons (pe_ix ix_list (pv 8) pe_int (fun _ _ => rfl)) (pa_cons (pe_ix ix_list (pv 8) pe_int (fun _ _ => rfl)) (pa_cons (pe_ix ix_list (pv 8) pe_int (fun _ _ => rfl)) pa_nil))))))) (pv 7) (nomark _))
        (pss_one (ps_raiseSup rfl eT (room_rec hr) (takes_of rfl rfl rfl rfl) (pa_cons (pe_op op_sub (pe_fld (pv 1) rfl) pe_int) pa_nil) (by rfl))) pss_nil)))))
    (pss_cons (ps_expr (pe_mx0 (ok_l5 T) T.L.c hr (passes_call (takes_of rfl rfl rfl rfl) (fun _ _ _ _ h => h)) (pv 1)))
    (pss_one (ps_ret (pe_makeK (n := 3) M PB (hr.mono (by decide)) (by rfl) g kb (passes_call (takes_of rfl rfl rfl rfl) (fun _ _ _ _ h => h)) (pa_cons (pv 2) (pa_cons (pv 3) (pa_cons (pv 4) pa_nil))) (pk_cons (pe_ix ix_list (pv 5) pe_int (fun _ _ => rfl)) (pk_cons (pe_ix ix_list (pv 5) pe_int (fun _ _ => rfl)) (pk_cons (pe_ix ix_list (pv 5) pe_int (fun _ _ => rfl)) pk_nil))))))))))))), ?_⟩
  refine ⟨_, rfl, fun p dx hp hdx hne => ?_⟩
  have s0 : Same H (upd (upd H dx (.own p)) p (.ins (He.ga K "Lines") dx [])) := fun b o e => by
    rw [upd_ne (ne_of_none e hp), upd_ne (ne_of_none e hdx)]
    exact e
  refine ⟨p, dx, l, rfl, upd_same, hl, fun H1 s1 hln => ⟨rfl, ?_⟩⟩
  have s2 : Same H H1 := fun b o e => s1 b o (ne_of_none e hp) (s0 _ _ e)
  have bad : ∀ {H2 : Hp} {a : Nat}, Same H H2 → planAt (linesOf l) (wholeOf l) = some a → BadAt K H2 p a E := fun s3 e d H' s4 hd hx => by
    refine k1 _ e d H' (fun b o e => s4 b o (ne_of_none e hp) (s3 _ _ e)) ?_ hx
    cases e : H d with
    | none => rfl
    | some o =>
      have := s3 d o e
      rw [hd] at this
      cases this
  refine ⟨_, rfl, p, _, _, rfl, hln, F, fun a e => bad s2 (planAt_bad e), fun b st fs eb v H2 s3 hln2 hbk => ?_⟩
  have s3 : Same H H2 := fun b o e => s3 b o (ne_of_none e hp) (s2 _ _ e)
  obtain ⟨hb23, hst, hfne, hfa⟩ := bookR_ok eb
  have hfl := funsAll_le hfa
  obtain ⟨dx2, a2, x1, x2⟩ := id hln2
  refine ⟨_, rfl, p, dx2, _, rfl, x1, by rfl, p, cs "columns", true, _, _, _, by rfl, hln2, F, (by unfold Asc; decide +kernel), fun e => ?_, fun ns e q1 H3 s4 hq1n hln3 hq1v => ?_⟩
  · rw [takeM_one] at e
    exact bad s3 (planAt_col eb (Option.map_eq_none_iff.mp e))
  rw [takeM_one] at e
  obtain ⟨c, ec, rfl⟩ := Option.map_eq_some_iff.mp e
  have hbk3 := hbk.but2 s4 x1 (by show 3 ≠ 1; decide)
  have s5 : Same H H3 := fun b o e => s4 b o (ne_of_none e hp) (s3 _ _ e)
  obtain ⟨dx3, a3, y1, y2⟩ := id hln3
  refine ⟨q1, _, 0, _, rfl, rfl, SqL.of hq1v, atI_nat (j := 0) rfl, ?_⟩
  refine ⟨_, rfl, _, _, _, rfl, _, rfl, ?_⟩
  by_cases hc : 1 ≤ c ∧ c ≤ 2
  case neg =>
    rw [show (decide ((1 : Int) ≤ (c : Int)) && decide ((c : Int) ≤ 2)) = false from by rw [Bool.and_eq_false_iff]; simp only [decide_eq_false_iff_not]; omega]
    refine iteT ⟨_, rfl, p, _, dx3, _, _, rfl, y1, T.L.c, T.nA, lf_at _ _ _, _, _, rfl, rfl, _, rfl, fun d hd => ?_⟩
    show E _ (some d) (upd H3 d (.xd [("row", .int (((2 + fs.length + 1 : Nat) : Int) - 1))]))
    rw [show (((2 + fs.length + 1 : Nat) : Int) - 1) = ((2 + fs.length : Nat) : Int) from by omega]
    exact bad s5 (planAt_col2 eb ec hc) d _ (Same.but (same_upd hd)) hd upd_same
  rw [show (decide ((1 : Int) ≤ (c : Int)) && decide ((c : Int) ≤ 2)) = true from by rw [Bool.and_eq_true]; simp only [decide_eq_true_eq]; omega]
  have e3 : 2 + fs.length + 1 = 3 + fs.length := by omega
  rw [e3] at hln3 y1
  refine iteF ⟨_, rfl, _, rfl, _, rfl, p, v, _, _, 3 + fs.length, b, st, c, fs, rfl, hln3, F, hbk3, hfl, hst.1, by omega, hc, fun e => bad s5 (planAt_th eb ec hc e), fun e e' => bad s5 (planAt_th0 eb ec hc e e'), fun e e' hall tv H4 s6 hln4 hth hsz => ?_⟩
  have ePT := planAt_tail (wh := wholeOf l) eb ec hc e e'
  generalize (thGo b fs.length c [] ((linesOf l).drop (3 + fs.length))).2 = ths at ePT hall hln4 hth hsz e'
  have s7 : Same H H4 := fun b o e => s6 b o (ne_of_none e hp) (s5 _ _ e)
  have hbk4 := hbk3.but2 s6 y1 (by show 3 ≠ 1; decide)
  have htl := thAll_le hall
  generalize hA : 3 + fs.length + ths.length = a at ePT hln4
  refine ⟨Nat.zero_le _, fun r hr0 => ?_⟩
  have t1 := same_upd (o := .lst []) hr0
  have hrn : H r = none := by
    cases e : H r with
    | none => rfl
    | some o => have := s7 _ _ e; rw [hr0] at this; cases this
  have hrv := upd_same (H := H4) (a := r) (o := .lst [])
  have s8 := s7.trans t1
  have hln5 := hln4.same t1
  have hbk5 := hbk4.same t1
  have hth5 := hth.same t1
  generalize upd H4 r (.lst []) = H5 at hrv s8 hln5 hbk5 hth5 t1
  refine ⟨(by show 2 ≤ sizeLine; decide), fun p1 hp1 => ⟨(by show 2 ≤ sizeLine; decide), fun p2 hp2 => ⟨(by show 2 ≤ sizeLine; decide), fun p3 hp3 => ⟨(by show 3 ≤ sizeLine; decide), fun p4 hp4 => ?_⟩⟩⟩⟩
  have u1 := same_upd (o := .tup [.str "free", .str "FREE"]) hp1
  have u2 := same_upd (o := .tup [.str "writers", .str "WRITERS"]) hp2
  have u3 := same_upd (o := .tup [.str "askers", .str "ASKERS"]) hp3
  have u4 := same_upd (o := .tup [.ref p1, .ref p2, .ref p3]) hp4
  have u5 := u1.trans (u2.trans (u3.trans u4))
  have g1 := u4 _ _ (u3 _ _ (u2 _ _ (upd_same (H := H5) (a := p1) (o := .tup [.str "free", .str "FREE"]))))
  have g2 := u4 _ _ (u3 _ _ (upd_same (H := upd H5 p1 (.tup [.str "free", .str "FREE"])) (a := p2) (o := .tup [.str "writers", .str "WRITERS"])))
  have g3 := u4 _ _ (upd_same (H := upd (upd H5 p1 (.tup [.str "free", .str "FREE"])) p2 (.tup [.str "writers", .str "WRITERS"])) (a := p3) (o := .tup [.str "askers", .str "ASKERS"]))
  have g4 := upd_same (H := upd (upd (upd H5 p1 (.tup [.str "free", .str "FREE"])) p2 (.tup [.str "writers", .str "WRITERS"])) p3 (.tup [.str "askers", .str "ASKERS"])) (a := p4) (o := .tup [.ref p1, .ref p2, .ref p3])
  have s9 := s8.trans u5
  have hrv := u5 _ _ hrv
  have hln6 := hln5.same u5
  have hbk6 := hbk5.same u5
  have hth6 := hth5.same u5
  generalize upd (upd (upd (upd H5 p1 (.tup [.str "free", .str "FREE"])) p2 (.tup [.str "writers", .str "WRITERS"])) p3 (.tup [.str "askers", .str "ASKERS"])) p4 (.tup [.ref p1, .ref p2, .ref p3]) = H6 at g1 g2 g3 g4 s9 hrv hln6 hbk6 hth6
  have hpr : ∀ {b : Addr} {o : HO}, H b = some o → b ≠ p ∧ b ≠ r := fun e => ⟨ne_of_none e hp, ne_of_none e hrn⟩
  refine ⟨p4, rfl, ⟨_, .inl (.inl g4)⟩, for_tup (xs := [.ref p1, .ref p2, .ref p3]) (fun i σ H' => ∃ nss vs x6 x7 x8, σ = [some (.str (SX.S l)), some (.ref p), some v, some (.int (c : Int)), some tv, some (.ref r), x6, x7, x8] ∧ Same H H' ∧ Tups H6 H' ∧ LnAt K H' p (linesOf l) (wholeOf l) (a + i) ∧ BookAt K H' b st fs v ∧ ThingsAt K H' ths tv ∧ H' r = some (.lst vs) ∧ Paired (TupN H') nss vs ∧ nss.length = i ∧ (∀ n ∈ nss, n.length ≤ 1000) ∧
      (∀ j n, nss[j]? = some n → okI fs.length st j n = true) ∧ (∀ j < i, skI fs.length st (linesOf l) a j = true)) ⟨[], [], _, _, _, rfl, s9, Tups.refl _, hln6, hbk6, hth6, hrv, .nil, rfl, (fun _ h => by cases h), (fun j n h => by cases h), fun j h => by omega⟩ (fun i σ H' _ ⟨_, _, _, _, _, _, _, tp, _⟩ => .inl (.inl (tp _ _ g4))) ?_ ?_⟩
  · rintro i x σ H' hx ⟨nss, vs, x6, x7, x8, rfl, sa, tp, hlnA, hbkA, hthA, hrA, hps, hnl, hns, hok, hsk⟩
    have hi : i < 3 := by
      have := (List.getElem?_eq_some_iff.mp hx).1
      exact this
    obtain ⟨pi, rfl, hpi⟩ : ∃ pi, x = .ref pi ∧ H' pi = some (.tup [.str (wordI i), .str (partI i).str]) := by
      match i, hx, hi with
      | 0, hx, _ => cases hx; exact ⟨p1, rfl, tp _ _ g1⟩
      | 1, hx, _ => cases hx; exact ⟨p2, rfl, tp _ _ g2⟩
      | 2, hx, _ => cases hx; exact ⟨p3, rfl, tp _ _ g3⟩
    refine ⟨pi, _, rfl, .inl (.inl hpi), rfl, _, _, rfl, _, _, rfl, rfl, ?_⟩
    obtain ⟨dxA, aA, z1, z2⟩ := id hlnA
    refine ⟨_, rfl, .inl ⟨rfl, _, SqL.of hrA⟩, _, rfl, p, dxA, _, rfl, z1, by rfl, _, rfl, p, kwI i, false, _, _, _, by rw [wordI_S]; rfl, hlnA, F, kwI_asc i, fun e => ?_, fun ns e q2 HB sB hq2n hlnB hq2v => ?_⟩
    · rw [takeM_none] at e
      exact bad sa (ePT.trans (tailAt_bad hi hsk (skI_none e)))
    rw [takeM_none] at e
    have sB' : Same H HB := fun b o e => sB b o (ne_of_none e hp) (sa _ _ e)
    have hbkB := hbkA.but2 sB z1 (by show 3 ≠ 1; decide)
    have hthB := hthA.but2 sB z1 (by show 3 ≠ 1; decide)
    have hrB : HB r = some (.lst vs) := sB _ _ (ne_of hrA z1 (by intro z; cases z)) hrA
    have tpB : Tups H6 HB := tp.trans (sB.tups z1)
    have hpsB : Paired (TupN HB) nss vs := L2.Paired.mapP hps fun _ _ h => by
      obtain ⟨y, e, hy⟩ := h
      exact ⟨y, e, sB.tups z1 _ _ hy⟩
    refine ⟨q2, _, rfl, .inl ⟨SqL.of hq2v, fun q3 hq3 => ?_⟩⟩
    have v1 := same_upd (o := .tup (nV ns)) hq3
    have hq3v := upd_same (H := HB) (a := q3) (o := .tup (nV ns))
    have hbkC := hbkB.same v1
    have hthC := hthB.same v1
    have hlnC := hlnB.same v1
    have hrC := v1 _ _ hrB
    have tpC := tpB.trans (Same.tups v1)
    have sC := sB'.trans v1
    have hpsC : Paired (TupN (upd HB q3 (.tup (nV ns)))) nss vs := L2.Paired.mapP hpsB fun _ _ h => h.same v1
    generalize upd HB q3 (.tup (nV ns)) = HC at hq3v hbkC hthC hlnC hrC tpC sC hpsC v1
    have hvl := Paired.len hps
    have hnw : vs ≠ wV (linesOf l) := by
      intro ev
      have hne : linesOf l ≠ [] := by
        intro z
        unfold takeL at e
        rw [z] at e
        cases e
      cases vs with
      | nil =>
        cases h : linesOf l with
        | nil => exact hne h
        | cons _ _ => rw [h] at ev; cases ev
      | cons v0 vr =>
        cases nss with
        | nil => cases hvl
        | cons n0 nr =>
          obtain ⟨y, ey, _⟩ := Paired.at hps (i := 0) rfl rfl
          cases h : linesOf l with
          | nil => exact hne h
          | cons _ _ => rw [h, ey] at ev; cases ev
    refine ⟨r, _, _, rfl, rfl, hrC, (by rw [sizeLine_eq]; omega), ?_⟩
    have kp : Keep HC (upd HC r (.lst (vs ++ [.ref q3]))) := Keep.lst hrC
    have sD : Same H (upd HC r (.lst (vs ++ [.ref q3]))) := fun b o e => by
      rw [upd_ne (ne_of_none e hrn)]
      exact sC _ _ e
    have hlnD := hlnC.lstU (ys := vs ++ [.ref q3]) hrC hnw
    have hbkD := hbkC.keep kp
    have hthD := hthC.keep kp
    have hrD := upd_same (H := HC) (a := r) (o := .lst (vs ++ [.ref q3]))
    have tpD := tpC.trans kp.tups
    have hpsD : Paired (TupN (upd HC r (.lst (vs ++ [.ref q3])))) (nss ++ [ns]) (vs ++ [.ref q3]) := Paired.app (L2.Paired.mapP hpsC fun _ _ h => by
      obtain ⟨y, e, hy⟩ := h
      exact ⟨y, e, kp.tups _ _ hy⟩) (.cons ⟨q3, rfl, kp.tups _ _ hq3v⟩ .nil)
    generalize upd HC r (.lst (vs ++ [.ref q3])) = HD at sD hlnD hbkD hthD hrD tpD hpsD
    have hvl2 : (vs ++ [V.ref q3]).length = i + 1 := by rw [List.length_append, List.length_singleton]; omega
    have hnl2 : (nss ++ [ns]).length = i + 1 := by rw [List.length_append, List.length_singleton]; omega
    have hnsl := digs_le F e
    have hns2 : ∀ n ∈ nss ++ [ns], n.length ≤ 1000 := fun n hn => by
      rcases List.mem_append.mp hn with hn | hn
      · exact hns n hn
      · rw [List.mem_singleton.mp hn]; exact hnsl
    generalize hvs2 : vs ++ [V.ref q3] = vs2 at hvl2 hpsD hrD
    refine ⟨_, rfl, (by show 1 ≤ sizeLine; decide), fun q4 hq4 => ?_⟩
    have w1 := same_upd (o := .lst [.non]) hq4
    refine ⟨_, rfl, .ref r, _, rfl, .inl ⟨_, SqL.of (w1 _ _ hrD), rfl⟩, 3, _, rfl, rfl, q4, _, _, rfl, rfl, upd_same, by omega, by omega, ?_, fun q5 hq5 => ?_⟩
    · rw [sizeLine_eq, hvl2]
      show 1 * (3 - ((i + 1 : Nat) : Int)).toNat ≤ _
      omega
    have w2 := same_upd (o := .lst (List.replicate (3 - (vs2.length : Int)).toNat [V.non]).flatten) hq5
    have hq5v := upd_same (H := upd HD q4 (.lst [.non])) (a := q5) (o := .lst (List.replicate (3 - (vs2.length : Int)).toNat [V.non]).flatten)
    have hrE := w2 _ _ (w1 _ _ hrD)
    refine ⟨r, q5, vs2, _, rfl, rfl, hrE, hq5v, ?_, fun q6 hq6 => ⟨_, rfl, ?_⟩⟩
    · rw [sizeLine_eq]
      simp [List.length_flatten]
      omega
    have w3 := same_upd (o := .lst (vs2 ++ (List.replicate (3 - (vs2.length : Int)).toNat [V.non]).flatten)) hq6
    have w4 := w1.trans (w2.trans w3)
    have hq6v := upd_same (H := upd (upd HD q4 (.lst [.non])) q5 (.lst (List.replicate (3 - (vs2.length : Int)).toNat [V.non]).flatten)) (a := q6) (o := .lst (vs2 ++ (List.replicate (3 - (vs2.length : Int)).toNat [V.non]).flatten))
    have hbkF := hbkD.same w4
    have hthF := hthD.same w4
    have hlnF := hlnD.same w4
    have hrF := w4 _ _ hrD
    have tpF := tpD.trans (Same.tups w4)
    have sF := sD.trans w4
    have hpsF : Paired (TupN (upd (upd (upd HD q4 (.lst [.non])) q5 (.lst (List.replicate (3 - (vs2.length : Int)).toNat [V.non]).flatten)) q6 (.lst (vs2 ++ (List.replicate (3 - (vs2.length : Int)).toNat [V.non]).flatten)))) (nss ++ [ns]) vs2 := L2.Paired.mapP hpsD fun _ _ h => h.same w4
    generalize upd (upd (upd HD q4 (.lst [.non])) q5 (.lst (List.replicate (3 - (vs2.length : Int)).toNat [V.non]).flatten)) q6 (.lst (vs2 ++ (List.replicate (3 - (vs2.length : Int)).toNat [V.non]).flatten)) = HF at hq6v hbkF hthF hlnF hrF tpF sF hpsF
    have hop := opt_of hpsF hns2
    have fa := fun j (hj : j < 3) => filled_at (xs := vs2) (by omega) hj
    have pbI := planBad_I (b := b) (ns := ns) hc hst.1 hall hi hnl hok
    refine ⟨_, rfl, _, rfl, _, rfl, q6, _, 0, _, rfl, rfl, SqL.of hq6v, atI_nat (j := 0) (fa 0 (by decide)), _, rfl, q6, _, 1, _, rfl, rfl, SqL.of hq6v, atI_nat (j := 1) (fa 1 (by decide)), _, rfl, q6, _, 2, _, rfl, rfl, SqL.of hq6v, atI_nat (j := 2) (fa 2 (by decide)), ?_⟩
    refine ⟨v, tv, _, _, _, b, st, c, fs, ths, _, _, _, rfl, hbkF, by omega, by omega, hthF, by omega, hsz, hop 0, hop 1, hop 2, fun e9 a9 dx9 l9 H9 s29 ha9 => ⟨_, rfl, ?_⟩, fun z e9 H9 s29 => ⟨_, rfl, ?_⟩⟩
    · rw [pbI] at e9
      have hokI : okI fs.length st i ns = true := by
        cases h : okI fs.length st i ns with
        | true => rfl
        | false => rw [if_pos h] at e9; cases e9
      refine eqTP T (.inr ⟨a9, dx9, l9, rfl, ha9, false, rfl, iteF ?_⟩)
      refine ⟨nss ++ [ns], vs2, _, _, _, rfl, sF.trans s29, tpF.trans (Same.tups s29), hlnF.same s29, hbkF.same s29, hthF.same s29, s29 _ _ hrF, L2.Paired.mapP hpsF fun _ _ h => h.same s29, hnl2, hns2, fun j n hn => ?_, fun j hj => ?_⟩
      · by_cases hj : j < nss.length
        · exact hok j n (by rw [List.getElem?_append_left hj] at hn; exact hn)
        · rw [List.getElem?_append_right (by omega)] at hn
          have hj0 : j - nss.length = 0 := by
            have := (List.getElem?_eq_some_iff.mp hn).1
            rw [List.length_singleton] at this
            omega
          rw [hj0] at hn
          cases hn
          rw [show j = i by omega]
          exact hokI
      · by_cases hj2 : j < i
        · exact hsk j hj2
        · rw [show j = i by omega, skI_some e]
          exact hokI
    · rw [pbI] at e9
      cases h : okI fs.length st i ns with
      | true => rw [if_neg (by rw [h]; decide)] at e9; cases e9
      | false =>
        rw [if_pos h] at e9
        cases e9
        refine eqTP T (.inl ⟨_, rfl, _, rfl, ?_⟩)
        rw [decide_eq_true rfl]
        obtain ⟨dxF, aF, f1, f2⟩ := id hlnF
        refine iteT ⟨_, rfl, p, _, dxF, _, _, rfl, s29 _ _ f1, T.L.c, T.nA, lf_at _ _ _, _, _, rfl, rfl, _, rfl, fun d hd => ?_⟩
        show E _ (some d) (upd H9 d (.xd [("row", .int (((a + i + 1 : Nat) : Int) - 1))]))
        rw [show (((a + i + 1 : Nat) : Int) - 1) = ((a + i : Nat) : Int) from by omega]
        exact bad (sF.trans s29) (ePT.trans (tailAt_bad hi hsk ((skI_some e).trans h))) d _ (Same.but (same_upd hd)) hd upd_same
  · rintro σ H' ⟨nss, vs, x6, x7, x8, rfl, sa, tp, hlnA, hbkA, hthA, hrA, hps, hnl, hns, hok, hsk⟩
    obtain ⟨dxA, aA, z1, z2⟩ := id hlnA
    have eT := ePT.trans (tailAt_ok hsk)
    refine ⟨_, rfl, p, dxA, _, rfl, z1, by rfl, p, _, _, _, rfl, hlnA, fun cn => ?_, fun cn => bad sa (eT.trans (if_pos cn))⟩
    have hvl := Paired.len hps
    obtain ⟨v0, v1, v2, rfl⟩ : ∃ v0 v1 v2, vs = [v0, v1, v2] := by
      match vs, hvl.symm.trans hnl with
      | [v0, v1, v2], _ => exact ⟨v0, v1, v2, rfl⟩
    have hop := opt_of hps hns
    refine ⟨_, rfl, _, rfl, _, rfl, _, rfl, r, _, 0, _, rfl, rfl, SqL.of hrA, atI_nat (j := 0) rfl, _, rfl, r, _, 1, _, rfl, rfl, SqL.of hrA, atI_nat (j := 1) rfl, _, rfl, r, _, 2, _, rfl, rfl, SqL.of hrA, atI_nat (j := 2) rfl, rfl, rfl, fun pp pdx hpp hpdx hpne => ?_⟩
    have sM : Same H' (upd (upd H' pdx (.own pp)) pp (.ins (He.ga K "Plan") pdx [])) := fun b o e => by
      rw [upd_ne (ne_of_none e hpp), upd_ne (ne_of_none e hpdx)]
      exact e
    refine ⟨pp, pdx, v, tv, v0, v1, v2, b, st, c, fs, ths, _, _, _, rfl, upd_same, hbkA.same sM, by omega, by omega, hthA.same sM, by omega, hsz, (hop 0).same sM, (hop 1).same sM, (hop 2).same sM, fun e9 H9 l9 s9 hp9 => ⟨rfl, ?_⟩, fun z e9 => ?_⟩
    · refine k2 (eT.trans (if_neg cn)) pp pdx l9 H9 (fun b o eb => ?_) hp9
      have hb := sa _ _ eb
      exact s9 b o (ne_of_none hb hpp) (sM _ _ hb)
    · rw [planBad_3 hc hst.1 hall hnl hok] at e9
      cases e9
end
end Km
set_option Elab.async false
set_option linter.all false
set_option maxRecDepth 100000
set_option maxHeartbeats 4000000
/-! the law's numbers, loosely -/
namespace Km
open PySem PySem.Spec PyProof.Rows L2
/-- what is known of the law's text -/
structure Lw (P : Program) (K : PySem.W.Frag) (mg : Str → Option Value) (w : World) : Prop where
  t : Tx P K mg w
  sum_ : mg "sum" = none
  dNumber : DefG K mg "_law_number" (top 61)
  dTree : DefG K mg "_law_tree" (top 62)
  dFunctions : DefG K mg "_law_functions" (top 63)
  dSome : DefG K mg "_law_some" (top 64)
  dPlan : DefG K mg "_law_plan" (top 65)
  dText : DefG K mg "_law_text" (top 66)
  dLine : DefG K mg "_law_line" (top 67)
  dBookText : DefG K mg "_law_book_text" (top 68)
  dPlanText : DefG K mg "_law_plan_text" (top 69)
  dRead : DefG K mg "_law_read" (top 70)
  dLeaves : DefG K mg "_law_leaves" (top 71)
  dTreeOf : DefG K mg "_law_tree_of" (top 72)
  dIsGood : DefG K mg "_law_is_good" (top 73)
  dLDigits : DefG K mg "_law_digits" (top 74)
  dBookBad : DefG K mg "_law_book_bad" (top 75)
  dPlanBad : DefG K mg "_law_plan_bad" (top 76)
  dSpoilt : DefG K mg "_law_spoilt" (top 77)
  dTold : DefG K mg "_law_told" (top 78)
  dLLines : DefG K mg "_law_lines" (top 79)
  dRight : DefG K mg "_law_right" (top 80)
  dLaw : DefG K mg "law" (top 81)
section
variable {P : Program} {w : World} {K : PySem.W.Frag} {mg : Str → Option Value} {base : Heap}
theorem dp_ints {H : Hp} : ∀ ns : List Int, DpAll K H (ns.map V.int) (ns.map PyData.int)
  | [] => .nil
  | n :: ns => .cons (.int n) (dp_ints ns)
theorem dp_intL {H : Hp} {a : Addr} {ns : List Int} (h : SqL K H a (ns.map V.int)) : Dp K H (.ref a) (.list (ns.map PyData.int)) := .lst h (dp_ints ns)
theorem eqv_nil (ns : List Int) : PyData.eqv (.list (ns.map PyData.int)) (.list []) = ns.isEmpty := by
  cases ns <;> simp [PyData.eqv, PyData.eqvAll]
theorem ifJoin {b : Bool} {ta tb : TE} {σ : L2.St} {H : Hp} {Q : VK} (Good : V → Hp → Prop) (ha : b = true → ∀ Q' : VK, (∀ v H', Good v H' → Q' v H') → ta σ H Q') (hb : b = false → ∀ Q' : VK, (∀ v H', Good v H' → Q' v H') → tb σ H Q')
    (k : ∀ v H', Good v H' → Q v H') : if b = true then ta σ H Q else tb σ H Q := by
  cases b with
  | true => exact iteT (ha rfl Q k)
  | false => exact iteF (hb rfl Q k)
/-! ### _law_number -/
theorem scNum : FnScope ["script", "index", "cells", "cell", "low", "high", "total", "blend"] ["script", "index"] (defScope (top 61)) := ⟨rfl, rfl, rfl, by decide +kernel, rfl, by decide +kernel, by decide +kernel⟩
def spNum (K : PySem.W.Frag) : Sp := fun vs H Q _ => ∃ (l : Addr) (ns : List Int) (i : Nat), vs = [.ref l, .int (i : Int)] ∧ SqL K H l (ns.map V.int) ∧ i ≤ 1000000 ∧ ∀ (n : Nat) H', Same H H' → n < 2 ^ 50 → Q (.int (n : Int)) H'
theorem ok_num (T : Lw P K mg w) : CalX CX0 P w K mg base 1 "_law_number" (spNum K) := by
  refine cal_of T.dNumber scNum (fun _ _ _ _ _ _ us hl => match us, hl with | [_, _], _ => rfl) (fun vs H Q E ⟨l, ns, i, e, _⟩ => by rw [e]; rfl) ?_
  rintro f cdv A outer s H vs Q E hr ⟨l, ns, i, rfl, hl, hi, k⟩
  have nd := scNum.nd
  have B := T.t.r.f.B
  refine ⟨_, pss_cons (ps_set (i := 2) nd rfl (Or.inl rfl) (pe_ifExp (pt_cmpR (op_neD hr.units) (pv 0) (pe_lst pa_nil) (nomark _)) (pe_slice sl_list (pv 0) po_none (po_some pe_int)) (pe_lst (pa_cons pe_int pa_nil))))
    (pss_cons (ps_set (i := 3) nd rfl (Or.inl rfl) (pe_op op_add (pe_ix ix_list (pv 2) (pe_op op_mod (pe_callTy call_int1 (by rfl) B.int_ (by decide +kernel) (pa_cons (pv 1) pa_nil)) (pe_callB call_len (by rfl) B.len_ PySem.boot_len (pa_cons (pv 2) pa_nil))) (fun _ _ => rfl)) (pe_op op_mul pe_int (pe_op op_fdiv (pv 1) (pe_callB call_len (by rfl) B.len_ PySem.boot_len (pa_cons (pv 2) pa_nil))))))
    (pss_cons (ps_par (i := 4) (j := 5) rfl nd rfl rfl (by decide) rfl rfl (pa_cons (pe_op op_mod (pe_callTy call_int1 (by rfl) B.int_ (by decide +kernel) (pa_cons (pv 3) pa_nil)) pe_int) (pa_cons (pe_op op_mod (pe_callTy call_int1 (by rfl) B.int_ (by decide +kernel) (pa_cons (pe_op op_fdiv (pv 3) pe_int) pa_nil)) pe_int) pa_nil)) (by rfl))
    (pss_cons (ps_set (i := 6) nd rfl (Or.inl rfl) (pe_op op_mod (pe_callTy call_int1 (by rfl) B.int_ (by decide +kernel) (pa_cons (pe_callB (cr_sum rfl) (by rfl) T.sum_ (by decide +kernel) (pa_cons (pv 2) pa_nil)) pa_nil)) pe_int))
    (pss_cons (ps_set (i := 7) nd rfl (Or.inl rfl) (pe_op op_mod (pe_callTy call_int1 (by rfl) B.int_ (by decide +kernel) (pa_cons (pe_op op_add (pe_op op_add (pe_op op_mul (pe_op op_add (pv 4) (pe_op op_mul pe_int (pv 1))) pe_int) (pe_op op_mul pe_int (pv 5))) (pv 6)) pa_nil)) pe_int))
    (pss_one (ps_ret (pe_op op_add (pe_op op_mul (pe_op op_mod (pe_callTy call_int1 (by rfl) B.int_ (by decide +kernel) (pa_cons (pe_op op_mul (pv 7) (pe_op op_add (pe_op op_add (pv 7) (pe_op op_mul pe_int (pv 1))) pe_int)) pa_nil)) pe_int) pe_int) (pv 5)))))))), ?_⟩
  refine ⟨_, rfl, Nat.zero_le _, fun q0 hq0 => ⟨_, _, dp_intL ((same_upd hq0).seq hl), dp_intL (ns := []) (SqL.of upd_same), PySem.W.ke_shaped_ints _, PySem.W.ke_shaped_ints _, _, rfl, ?_⟩⟩
  have s0 := same_upd (o := .lst []) hq0
  have hl0 := s0.seq hl
  generalize upd H q0 (.lst []) = H0 at s0 hl0
  rw [show PyData.eqv (.list (ns.map PyData.int)) (.list ([].map PyData.int)) = ns.isEmpty from eqv_nil ns]
  refine ifJoin (fun v H' => ∃ (c : Addr) (cs : List Int), v = .ref c ∧ SqL K H' c (cs.map V.int) ∧ 0 < cs.length ∧ cs.length ≤ 63 ∧ Same H H') (fun hb Q' q' => ?_) (fun hb Q' q' => ?_) ?_
  · refine ⟨_, rfl, _, rfl, l, _, rfl, hl0, fun q1 hq1 => q' _ _ ⟨q1, ns.take 63, rfl, ?_, ?_, ?_, s0.trans (same_upd hq1)⟩⟩
    · rw [show (63 : Int) = ((63 : Nat) : Int) from rfl, cutVL_to, ← List.map_take]
      exact SqL.of upd_same
    · cases ns with
      | nil => cases hb
      | cons _ _ => simp
    · rw [List.length_take]; omega
  · exact ⟨by show 1 ≤ sizeLine; decide, fun q1 hq1 => q' _ _ ⟨q1, [5], rfl, SqL.of upd_same, by decide, by decide, s0.trans (same_upd hq1)⟩⟩
  rintro _ H1 ⟨c, cs, rfl, hc, hc0, hc63, s1⟩
  obtain ⟨j, hj, ej⟩ : ∃ j, j < cs.length ∧ (i : Int) % (cs.length : Int) = (j : Int) := by
    have h1 := Int.emod_nonneg (i : Int) (show (cs.length : Int) ≠ 0 by omega)
    have h2 := Int.emod_lt_of_pos (i : Int) (show (0 : Int) < cs.length by omega)
    exact ⟨((i : Int) % (cs.length : Int)).toNat, by omega, by omega⟩
  have hlen : (cs.map V.int).length = cs.length := List.length_map _
  have d1 : 0 ≤ (i : Int) / (cs.length : Int) := Int.ediv_nonneg (by omega) (by omega)
  have d2 : (i : Int) / (cs.length : Int) ≤ 1000000 := Int.le_trans (Int.ediv_le_self _ (by omega)) (by omega)
  have lv : ∀ {H' : Hp}, SqL K H' c (cs.map V.int) → LenV K (.ref c) H' cs.length := fun h => .inl ⟨_, h, hlen.symm⟩
  refine ⟨_, rfl, _, rfl, .inl ⟨_, rfl, _, rfl, _, _, rfl, lv hc, _, _, rfl, rfl, (show (0 : Int) < _ by omega), c, _, _, .int cs[j], rfl, rfl, hc, ?_, _, rfl, _, rfl, _, _, rfl, lv hc, _, _, rfl, rfl, ⟨by omega, by omega⟩, _, _, rfl, rfl, ?_, _, _, rfl, rfl, ?_⟩⟩
  · rw [ej]
    refine atI_nat ?_
    rw [List.getElem?_map, List.getElem?_eq_getElem hj]
    rfl
  · exact .inr ⟨by omega, by omega⟩
  obtain ⟨cell, ecell⟩ : ∃ z, z = cs[j] + 13 * ((i : Int) / (cs.length : Int)) := ⟨_, rfl⟩
  refine ⟨.int cell, by rw [ecell]; rfl, .inl ⟨_, rfl, _, _, rfl, rfl, (show (0 : Int) < _ by decide), .int cell, by rw [ecell]; rfl, _, _, rfl, rfl, ⟨by decide, by decide⟩, .inl ⟨_, rfl, _, _, rfl, rfl, (show (0 : Int) < _ by decide), _, _, rfl, ?_⟩⟩⟩
  have lo1 := Int.emod_nonneg cell (show (1000003 : Int) ≠ 0 by decide)
  have lo2 := Int.emod_lt_of_pos cell (show (0 : Int) < 1000003 by decide)
  have hi1 := Int.emod_nonneg (cell / 1000003) (show (999983 : Int) ≠ 0 by decide)
  have hi2 := Int.emod_lt_of_pos (cell / 1000003) (show (0 : Int) < 999983 by decide)
  obtain ⟨low, elow⟩ : ∃ z, z = cell % 1000003 := ⟨_, rfl⟩
  obtain ⟨high, ehigh⟩ : ∃ z, z = cell / 1000003 % 999983 := ⟨_, rfl⟩
  rw [← elow] at lo1 lo2
  rw [← ehigh] at hi1 hi2
  refine ⟨_, rfl, c, _, rfl, hc, .inl ⟨_, rfl, _, _, rfl, rfl, (show (0 : Int) < _ by decide), ?_⟩⟩
  have t1 := Int.emod_nonneg cs.sum (show (65521 : Int) ≠ 0 by decide)
  have t2 := Int.emod_lt_of_pos cs.sum (show (0 : Int) < 65521 by decide)
  refine ⟨.int low, by rw [elow]; rfl, _, rfl, _, _, rfl, rfl, .inr ⟨by omega, by omega⟩, _, _, rfl, rfl, _, _, rfl, rfl, .inl ⟨by omega, by omega⟩, .int high, by rw [ehigh]; rfl, _, _, rfl, rfl, .inl ⟨by decide, by decide⟩, _, _, rfl, rfl, _, rfl, _, _, rfl, rfl, .inl ⟨_, rfl, _, _, rfl, rfl, (show (0 : Int) < _ by decide), ?_⟩⟩
  obtain ⟨blend, eblend⟩ : ∃ z, z = ((low + 977 * (i : Int)) * 48271 + 31 * high + cs.sum % 65521) % 2147483647 := ⟨_, rfl⟩
  have b1 := Int.emod_nonneg ((low + 977 * (i : Int)) * 48271 + 31 * high + cs.sum % 65521) (show (2147483647 : Int) ≠ 0 by decide)
  have b2 := Int.emod_lt_of_pos ((low + 977 * (i : Int)) * 48271 + 31 * high + cs.sum % 65521) (show (0 : Int) < 2147483647 by decide)
  rw [← eblend] at b1 b2
  have e1 := Int.emod_nonneg (blend * (blend + 31 * (i : Int) + 7)) (show (2147483629 : Int) ≠ 0 by decide)
  have e2 := Int.emod_lt_of_pos (blend * (blend + 31 * (i : Int) + 7)) (show (0 : Int) < 2147483629 by decide)
  refine ⟨.int blend, by rw [eblend]; rfl, .int blend, by rw [eblend]; rfl, _, rfl, _, _, rfl, rfl, .inl ⟨by decide, by decide⟩, _, _, rfl, rfl, _, _, rfl, rfl, _, _, rfl, rfl, .inl ⟨by omega, by omega⟩, .inl ⟨_, rfl, _, _, rfl, rfl, (show (0 : Int) < _ by decide), _, _, rfl, rfl, .inl ⟨by omega, by omega⟩, .int high, by rw [ehigh]; rfl, _, _, rfl, rfl, ?_⟩⟩
  have := k (blend * (blend + 31 * (i : Int) + 7) % 2147483629 * 65537 + high).toNat H1 s1 (by omega)
  rw [Int.toNat_of_nonneg (by omega)] at this
  exact this
end
end Km
set_option Elab.async false
set_option linter.all false
set_option maxRecDepth 100000
set_option maxHeartbeats 4000000
/-! the law's trees, loosely -/
namespace Km
open PySem PySem.Spec PyProof.Rows L2
section
variable {P : Program} {w : World} {K : PySem.W.Frag} {mg : Str → Option Value} {base : Heap}
/-- a good tree of at most m forms -/
def GoodTr (H : Hp) (m : Nat) (v : V) : Prop := ∃ t, TreeAt H t v ∧ t.wf = true ∧ t.size ≤ m
theorem GoodTr.same {H H' : Hp} {m : Nat} {v : V} (h : GoodTr H m v) (s : Same H H') : GoodTr H' m v := by
  obtain ⟨t, h1, h2, h3⟩ := h
  exact ⟨t, h1.tups (Same.tups s), h2, h3⟩
def LvAt (K : PySem.W.Frag) (H : Hp) (v : V) : Prop := ∃ a vs, v = .ref a ∧ SqL K H a vs ∧ 0 < vs.length ∧ ∀ x ∈ vs, GoodTr H 1 x
theorem LvAt.same {H H' : Hp} {v : V} (h : LvAt K H v) (s : Same H H') : LvAt K H' v := by
  obtain ⟨a, vs, e, h1, h2, h3⟩ := h
  exact ⟨a, vs, e, s.seq h1, h2, fun x hx => (h3 x hx).same s⟩
def ClAt (K : PySem.W.Frag) (H : Hp) (v : V) : Prop := ∃ a, ∃ cs : List Int, v = .ref a ∧ SqL K H a (cs.map V.int) ∧ ∀ x ∈ cs, 0 ≤ x ∧ x ≤ 2
theorem ClAt.same {H H' : Hp} {v : V} (h : ClAt K H v) (s : Same H H') : ClAt K H' v := by
  obtain ⟨a, vs, e, h1, h2⟩ := h
  exact ⟨a, vs, e, s.seq h1, h2⟩
def ScAt (K : PySem.W.Frag) (H : Hp) (v : V) : Prop := ∃ a, ∃ ns : List Int, v = .ref a ∧ SqL K H a (ns.map V.int)
theorem ScAt.same {H H' : Hp} {v : V} (h : ScAt K H v) (s : Same H H') : ScAt K H' v := by
  obtain ⟨a, vs, e, h1⟩ := h
  exact ⟨a, vs, e, s.seq h1⟩
theorem mod_at {x : Int} {n : Nat} (h : 0 < n) : ∃ j, j < n ∧ x % (n : Int) = (j : Int) := by
  have h1 := Int.emod_nonneg x (show (n : Int) ≠ 0 by omega)
  have h2 := Int.emod_lt_of_pos x (show (0 : Int) < n by omega)
  exact ⟨(x % (n : Int)).toNat, by omega, by omega⟩
theorem scTree : FnScope ["script", "at", "size", "leaves", "calls", "seed", "kind", "rest", "part", "test", "one", "left", "other"] ["script", "at", "size", "leaves", "calls"] (defScope (top 62)) := ⟨rfl, rfl, rfl, by decide +kernel, rfl, by decide +kernel, by decide +kernel⟩
def spTree (K : PySem.W.Frag) (n : Nat) : Sp := fun vs H Q _ => ∃ (sv lv cv : V) (i m : Nat), vs = [sv, .int (i : Int), .int (m : Int), lv, cv] ∧ ScAt K H sv ∧ i + 30 * n ≤ 1000000 ∧ n ≤ 20 ∧ 1 ≤ m ∧ m ≤ n ∧ LvAt K H lv ∧ ClAt K H cv ∧ ∀ v H', Same H H' → GoodTr H' m v → Q v H'
theorem iteC {c : Bool} {A B : Prop} (a : c = true → A) (b : c = false → B) : if c = true then A else B := by
  cases c with
  | true => exact iteT (a rfl)
  | false => exact iteF (b rfl)
theorem iteP {c : Bool} {A B : Prop} (a : A) (b : B) : if c = true then A else B := by
  cases c with
  | true => exact iteT a
  | false => exact iteF b
theorem iteY {c : Bool} {A B : Prop} (a : A) (b : c = false → B) : if c = true then A else B := by
  cases c with
  | true => exact iteT a
  | false => exact iteF (b rfl)
theorem iteX {c : Bool} {A B : Prop} (b : B) (a : c = true → A) : if c = true then A else B := by
  cases c with
  | true => exact iteT (a rfl)
  | false => exact iteF b
theorem GoodTr.call {H : Hp} {m : Nat} {v : V} {c : Int} {a : Addr} (h : GoodTr H m v) (hc : 0 ≤ c ∧ c ≤ 2) (ha : H a = none) : GoodTr (upd H a (.tup [.str "call", .int c, v])) (m + 1) (.ref a) := by
  obtain ⟨t, h1, h2, h3⟩ := h
  refine ⟨.call c.toNat t, ⟨a, v, rfl, ?_, h1.tups (Same.tups (same_upd ha))⟩, ?_, ?_⟩
  · rw [upd_same, Int.toNat_of_nonneg hc.1]
  · simp only [Tr.wf, h2, Bool.and_true, decide_eq_true_eq]; omega
  · simp only [Tr.size]; omega
theorem GoodTr.bin {H : Hp} {m n : Nat} {v u : V} {o : Op} {a : Addr} (h : GoodTr H m v) (h' : GoodTr H n u) (ha : H a = none) : GoodTr (upd H a (.tup [.str o.word, v, u])) (m + n + 1) (.ref a) := by
  obtain ⟨t, h1, h2, h3⟩ := h
  obtain ⟨t', h1', h2', h3'⟩ := h'
  refine ⟨.bin o t t', ⟨a, v, u, rfl, upd_same, h1.tups (Same.tups (same_upd ha)), h1'.tups (Same.tups (same_upd ha))⟩, ?_, ?_⟩
  · simp only [Tr.wf, h2, h2', Bool.and_true]
  · simp only [Tr.size]; omega
theorem GoodTr.whn {H : Hp} {m n j : Nat} {v u x : V} {a : Addr} (h : GoodTr H m v) (h' : GoodTr H n u) (h'' : GoodTr H j x) (ha : H a = none) : GoodTr (upd H a (.tup [.str "when", v, u, x])) (m + n + j + 1) (.ref a) := by
  obtain ⟨t, h1, h2, h3⟩ := h
  obtain ⟨t', h1', h2', h3'⟩ := h'
  obtain ⟨t'', h1'', h2'', h3''⟩ := h''
  refine ⟨.whn t t' t'', ⟨a, v, u, x, rfl, upd_same, h1.tups (Same.tups (same_upd ha)), h1'.tups (Same.tups (same_upd ha)), h1''.tups (Same.tups (same_upd ha))⟩, ?_, ?_⟩
  · simp only [Tr.wf, h2, h2', h2'', Bool.and_true]
  · simp only [Tr.size]; omega
theorem GoodTr.mono {H : Hp} {m n : Nat} {v : V} (h : GoodTr H m v) (l : m ≤ n) : GoodTr H n v := by
  obtain ⟨t, h1, h2, h3⟩ := h
  exact ⟨t, h1, h2, by omega⟩
/-- leaves[int(e) % len(leaves)] -/
theorem lv_pick {H : Hp} {lv : V} {z : Int} {Q : VK} (h : LvAt K H lv) (q : ∀ v, GoodTr H 1 v → Q v H) : ∃ (a : Addr) (vs : List V) (j : Nat) (v : V), lv = .ref a ∧ SqL K H a vs ∧ 0 < vs.length ∧ z % (vs.length : Int) = (j : Int) ∧ vs[j]? = some v ∧ Q v H := by
  obtain ⟨a, vs, e, h1, h2, h3⟩ := h
  obtain ⟨j, hj, ej⟩ := mod_at (x := z) h2
  exact ⟨a, vs, j, vs[j], e, h1, h2, ej, List.getElem?_eq_getElem hj, q _ (h3 _ (List.getElem_mem hj))⟩
theorem ok_tree0 (T : Lw P K mg w) : CalX CX0 P w K mg base 2 "_law_tree" (spTree K 1) := by
  refine cal_of T.dTree scTree (fun _ _ _ _ _ _ us hl => match us, hl with | [_, _, _, _, _], _ => rfl) (fun vs H Q E ⟨sv, lv, cv, i, m, e, _⟩ => by rw [e]; rfl) ?_
  rintro f cdv A outer s H vs Q E hr ⟨sv, lv, cv, i, m, rfl, hs, hi, hn20, hm0, hm, hlv, hcv, k⟩
  have nd := scTree.nd
  have B := T.t.r.f.B
  refine ⟨_, pss_cons (ps_set (i := 5) nd rfl (Or.inl rfl) (pe_callTy call_int1 (by rfl) B.int_ (by decide +kernel) (pa_cons (pe_cx (ok_num T) hr pass0 (by rfl) (pa_cons (pv 0) (pa_cons (pv 1) pa_nil))) pa_nil)))
    (pss_cons (ps_if (PW.pt (pw_or (pt_cmpR op_lt (pv 2) pe_int (nomark _)) (pw_or1 (pt_cmpR op_eq (pe_op op_mod (pe_callTy call_int1 (by rfl) B.int_ (by decide +kernel) (pa_cons (pv 5) pa_nil)) pe_int) pe_int (nomark _)))))
      (pss_one (ps_ret (pe_ix ix_list (pv 3) (pe_op op_mod (pe_callTy call_int1 (by rfl) B.int_ (by decide +kernel) (pa_cons (pe_op op_fdiv (pv 5) pe_int) pa_nil)) (pe_callB call_len (by rfl) B.len_ PySem.boot_len (pa_cons (pv 3) pa_nil))) (fun _ _ => rfl)))) pss_nil) pss_never), ?_⟩
  obtain ⟨sa, ns, rfl, hsl⟩ := hs
  refine ⟨_, rfl, _, rfl, sa, ns, i, rfl, hsl, by omega, fun n H1 s1 hn => .inl ⟨_, rfl, _, rfl, _, _, rfl, rfl, _, rfl, ?_⟩⟩
  rw [show decide ((m : Int) < 2) = true from by simp; omega]
  refine iteT (iteT ?_)
  obtain ⟨a, xs, j, v, rfl, h1, h2, h3, h4, q⟩ := lv_pick (z := (n : Int) / 7) (Q := fun v H => Q v H) (hlv.same s1) (fun v hv => k v H1 s1 (by obtain ⟨t, g1, g2, g3⟩ := hv; exact ⟨t, g1, g2, by omega⟩))
  exact ⟨_, rfl, _, rfl, _, _, rfl, rfl, ⟨by decide, by decide⟩, .inl ⟨_, rfl, _, rfl, _, _, rfl, .inl ⟨_, h1, rfl⟩, _, _, rfl, rfl, (show (0 : Int) < _ by omega), a, _, _, v, rfl, rfl, h1, (by rw [h3]; exact atI_nat h4), q⟩⟩
theorem ok_treeS (T : Lw P K mg w) {n : Nat} (ih : CalX CX0 P w K mg base (n + 2) "_law_tree" (spTree K (n + 1))) : CalX CX0 P w K mg base (n + 3) "_law_tree" (spTree K (n + 2)) := by
  refine cal_of T.dTree scTree (fun _ _ _ _ _ _ us hl => match us, hl with | [_, _, _, _, _], _ => rfl) (fun vs H Q E ⟨sv, lv, cv, i, m, e, _⟩ => by rw [e]; rfl) ?_
  rintro f cdv A outer s H vs Q E hr ⟨sv, lv, cv, i, m, rfl, hs, hi, hn20, hm0, hm, hlv, hcv, k⟩
  have nd := scTree.nd
  have B := T.t.r.f.B
  refine ⟨_, pss_cons (ps_set (i := 5) nd rfl (Or.inl rfl) (pe_callTy call_int1 (by rfl) B.int_ (by decide +kernel) (pa_cons (pe_cx (ok_num T) hr pass0 (by rfl) (pa_cons (pv 0) (pa_cons (pv 1) pa_nil)) (Nat.le_add_left _ _)) pa_nil)))
    (pss_cons (ps_if (PW.pt (pw_or (pt_cmpR op_lt (pv 2) pe_int (nomark _)) (pw_or1 (pt_cmpR op_eq (pe_op op_mod (pe_callTy call_int1 (by rfl) B.int_ (by decide +kernel) (pa_cons (pv 5) pa_nil)) pe_int) pe_int (nomark _)))))
      (pss_one (ps_ret (pe_ix ix_list (pv 3) (pe_op op_mod (pe_callTy call_int1 (by rfl) B.int_ (by decide +kernel) (pa_cons (pe_op op_fdiv (pv 5) pe_int) pa_nil)) (pe_callB call_len (by rfl) B.len_ PySem.boot_len (pa_cons (pv 3) pa_nil))) (fun _ _ => rfl)))) pss_nil)
    (pss_cons (ps_par (i := 6) (j := 7) rfl nd rfl rfl (by decide) rfl rfl (pa_cons (pe_op op_mod (pe_callTy call_int1 (by rfl) B.int_ (by decide +kernel) (pa_cons (pe_op op_fdiv (pv 5) pe_int) pa_nil)) pe_int) (pa_cons (pe_op op_fdiv (pv 5) pe_int) pa_nil)) (by rfl))
    (pss_cons (ps_if (PW.pt (pw_and (pt_cmpR (op_neD hr.units) (pv 4) (pe_lst pa_nil) (nomark _)) (pw_and1 (PW.pt (pw_or (pt_cmpR op_lt (pv 6) pe_int (nomark _)) (pw_or1 (pt_cmpR op_lt (pv 2) pe_int (nomark _))))))))
      (pss_one (ps_ret (pe_tup (pa_cons pe_str (pa_cons (pe_ix ix_list (pv 4) (pe_op op_mod (pe_callTy call_int1 (by rfl) B.int_ (by decide +kernel) (pa_cons (pv 7) pa_nil)) (pe_callB call_len (by rfl) B.len_ PySem.boot_len (pa_cons (pv 4) pa_nil))) (fun _ _ => rfl))
        (pa_cons (pe_cx ih hr pass0 (by rfl) (pa_cons (pv 0) (pa_cons (pe_op op_add (pv 1) pe_int) (pa_cons (pe_op op_sub (pv 2) pe_int) (pa_cons (pv 3) (pa_cons (pv 4) pa_nil))))) (Nat.le_refl _)) pa_nil)))))) pss_nil)
    (pss_cons (ps_if (pt_cmpR op_lt (pv 2) pe_int (nomark _)) (pss_one (ps_ret (pe_ix ix_list (pv 3) (pe_op op_mod (pe_callTy call_int1 (by rfl) B.int_ (by decide +kernel) (pa_cons (pv 7) pa_nil)) (pe_callB call_len (by rfl) B.len_ PySem.boot_len (pa_cons (pv 3) pa_nil))) (fun _ _ => rfl)))) pss_nil)
    (pss_cons (ps_if (PW.pt (pw_and (pt_cmpR op_eq (pv 6) pe_int (nomark _)) (pw_and1 (pt_cmpR op_gt (pv 2) pe_int (nomark _)))))
      (pss_cons (ps_set (i := 8) nd rfl (Or.inl rfl) (pe_op op_fdiv (pe_op op_sub (pv 2) pe_int) pe_int))
      (pss_cons (ps_set (i := 9) nd rfl (Or.inl rfl) (pe_cx ih hr pass0 (by rfl) (pa_cons (pv 0) (pa_cons (pe_op op_add (pv 1) pe_int) (pa_cons (pv 8) (pa_cons (pv 3) (pa_cons (pv 4) pa_nil))))) (Nat.le_refl _)))
      (pss_cons (ps_set (i := 10) nd rfl (Or.inl rfl) (pe_cx ih hr pass0 (by rfl) (pa_cons (pv 0) (pa_cons (pe_op op_add (pv 1) pe_int) (pa_cons (pv 8) (pa_cons (pv 3) (pa_cons (pv 4) pa_nil))))) (Nat.le_refl _)))
      (pss_one (ps_ret (pe_tup (pa_cons pe_str (pa_cons (pv 9) (pa_cons (pv 10) (pa_cons (pe_cx ih hr pass0 (by rfl) (pa_cons (pv 0) (pa_cons (pe_op op_add (pv 1) pe_int) (pa_cons (pe_op op_sub (pe_op op_sub (pv 2) pe_int) (pe_op op_mul pe_int (pv 8))) (pa_cons (pv 3) (pa_cons (pv 4) pa_nil))))) (Nat.le_refl _)) pa_nil))))))))))
      pss_nil)
    (pss_cons (ps_set (i := 11) nd rfl (Or.inl rfl) (pe_op op_add pe_int (pe_op op_mod (pe_callTy call_int1 (by rfl) B.int_ (by decide +kernel) (pa_cons (pe_op op_fdiv (pv 7) pe_int) pa_nil)) (pe_op op_sub (pv 2) pe_int))))
    (pss_cons (ps_set (i := 10) nd rfl (Or.inl rfl) (pe_cx ih hr pass0 (by rfl) (pa_cons (pv 0) (pa_cons (pe_op op_add (pv 1) pe_int) (pa_cons (pv 11) (pa_cons (pv 3) (pa_cons (pv 4) pa_nil))))) (Nat.le_refl _)))
    (pss_cons (ps_set (i := 12) nd rfl (Or.inl rfl) (pe_cx ih hr pass0 (by rfl) (pa_cons (pv 0) (pa_cons (pe_op op_add (pe_op op_add (pv 1) pe_int) (pv 11)) (pa_cons (pe_op op_sub (pe_op op_sub (pv 2) pe_int) (pv 11)) (pa_cons (pv 3) (pa_cons (pv 4) pa_nil))))) (Nat.le_refl _)))
    (pss_one (ps_ret (pe_tup (pa_cons (pe_ix ix_tup (pe_tup (pa_cons pe_str (pa_cons pe_str (pa_cons pe_str (pa_cons pe_str pa_nil))))) (pe_op op_mod (pe_callTy call_int1 (by rfl) B.int_ (by decide +kernel) (pa_cons (pv 7) pa_nil)) pe_int) (fun _ _ => rfl)) (pa_cons (pv 10) (pa_cons (pv 12) pa_nil)))))))))))))), ?_⟩
  obtain ⟨sa, ns, rfl, hsl⟩ := hs
  refine ⟨_, rfl, _, rfl, sa, ns, i, rfl, hsl, by omega, fun n1 H1 s1 hn => .inl ⟨_, rfl, _, rfl, _, _, rfl, rfl, _, rfl, ?_⟩⟩
  have leaf : ∀ (z : Int) (H2 : Hp) (Q' : VK), Same H H2 → (∀ v, Q v H2 → Q' v H2) → ∃ (a : Addr) (vs : List V) (j : Nat) (v : V), lv = .ref a ∧ SqL K H2 a vs ∧ 0 < vs.length ∧ z % (vs.length : Int) = (j : Int) ∧ vs[j]? = some v ∧ Q' v H2 := fun z H2 Q' s2 hq =>
    lv_pick (hlv.same s2) (fun v hv => hq v (k v H2 s2 (by obtain ⟨t, g1, g2, g3⟩ := hv; exact ⟨t, g1, g2, by omega⟩)))
  have pick : ∀ (z : Int) (H2 : Hp), Same H H2 → ∃ (a : Addr) (vs : List V) (j : Nat) (v : V), lv = .ref a ∧ SqL K H2 a vs ∧ 0 < vs.length ∧ z % (vs.length : Int) = (j : Int) ∧ vs[j]? = some v ∧ Q v H2 := fun z H2 s2 => leaf z H2 Q s2 (fun _ h => h)
  have lt0 : ∀ {a : Nat}, 0 < a → (0 : Int) < (a : Int) := fun h => by omega
  obtain ⟨ca, cs, rfl, hcs, hcb⟩ := hcv
  refine iteY (iteT ?ret) fun hm2 => ⟨_, rfl, .inl ⟨_, rfl, _, _, rfl, rfl, (show (0 : Int) < _ by decide), rfl, _, rfl, iteP ?ret ⟨_, rfl, _, _, rfl, rfl, ⟨by decide, by decide⟩, .inl ⟨_, rfl, _, _, rfl, rfl, (show (0 : Int) < _ by decide), _, rfl, _, _, rfl, rfl, ⟨by decide, by decide⟩, _, _, rfl, ?_⟩⟩⟩⟩
  case ret =>
    obtain ⟨a, xs, j, v, rfl, h1, h2, h3, h4, q⟩ := pick ((n1 : Int) / 7) H1 s1
    exact ⟨_, rfl, _, rfl, _, _, rfl, rfl, ⟨by decide, by decide⟩, .inl ⟨_, rfl, _, rfl, _, _, rfl, .inl ⟨_, h1, rfl⟩, _, _, rfl, rfl, lt0 h2, a, _, _, v, rfl, rfl, h1, (by rw [h3]; exact atI_nat h4), q⟩⟩
  have hm2 : 2 ≤ m := by
    have := of_decide_eq_false hm2
    omega
  have ec : ∀ {m' : Nat}, 1 ≤ m' → ((m' : Int) - 1) = ((m' - 1 : Nat) : Int) := fun h => by omega
  have kd1 := Int.emod_nonneg ((n1 : Int) / 7) (show (8 : Int) ≠ 0 by decide)
  refine ⟨_, rfl, Nat.zero_le _, fun q0 hq0 => ⟨_, _, dp_intL ((same_upd hq0).seq (s1.seq hcs)), dp_intL (ns := []) (SqL.of upd_same), PySem.W.ke_shaped_ints _, PySem.W.ke_shaped_ints _, _, rfl, ?_⟩⟩
  have s2 := s1.trans (same_upd (o := .lst []) hq0)
  rw [show PyData.eqv (.list (cs.map PyData.int)) (.list ([].map PyData.int)) = cs.isEmpty from eqv_nil cs]
  generalize upd H1 q0 (.lst []) = H2 at s2
  refine iteX ?skip (fun hne => ⟨_, rfl, _, _, rfl, rfl, _, rfl, iteP (iteT ?call) ⟨_, rfl, _, _, rfl, rfl, _, rfl, iteP ?call ?skip⟩⟩)
  case call =>
    have hcl : 0 < cs.length := by
      cases cs with
      | nil => cases hne
      | cons _ _ => simp
    obtain ⟨j, hj, ej⟩ := mod_at (x := (n1 : Int) / 56) hcl
    have hcs2 := s2.seq hcs
    have hll : (cs.map V.int).length = cs.length := List.length_map _
    refine ⟨_, rfl, _, rfl, .inl ⟨_, rfl, _, rfl, _, _, rfl, .inl ⟨_, hcs2, rfl⟩, _, _, rfl, rfl, (by rw [hll]; exact lt0 hcl), ca, _, _, .int cs[j], rfl, rfl, hcs2, ?_, ?_⟩⟩
    · rw [hll, ej]
      refine atI_nat ?_
      rw [List.getElem?_map, List.getElem?_eq_getElem hj]
      rfl
    refine ⟨_, rfl, _, rfl, _, _, rfl, rfl, _, rfl, _, _, rfl, rfl, _, rfl, _, rfl, .ref sa, lv, .ref ca, i + 1, m - 1, ?_, ⟨sa, ns, rfl, s2.seq hsl⟩, by omega, by omega, by omega, by omega, hlv.same s2, ⟨ca, cs, rfl, hcs2, hcb⟩, fun v H3 s3 g => ⟨by show 3 ≤ sizeLine; decide, fun t ht => ?_⟩⟩
    · show [_, V.int ((i : Int) + 1), V.int ((m : Int) - 1), _, _] = [_, V.int ((i + 1 : Nat) : Int), V.int ((m - 1 : Nat) : Int), _, _]
      rw [ec (by omega)]
      rfl
    · exact k _ _ (s2.trans (s3.trans (same_upd ht))) ((g.call (hcb _ (List.getElem_mem hj)) ht).mono (by omega))
  refine iteF ⟨_, rfl, _, _, rfl, rfl, _, rfl, iteC ?ret2 ?skip2⟩
  case ret2 =>
    intro _
    obtain ⟨a, xs, j, v, rfl, h1, h2, h3, h4, q⟩ := pick ((n1 : Int) / 56) H2 s2
    exact ⟨_, rfl, _, rfl, .inl ⟨_, rfl, _, rfl, _, _, rfl, .inl ⟨_, h1, rfl⟩, _, _, rfl, rfl, lt0 h2, a, _, _, v, rfl, rfl, h1, (by rw [h3]; exact atI_nat h4), q⟩⟩
  intro h3
  have h3 : 3 ≤ m := by
    have := of_decide_eq_false h3
    omega
  refine ⟨_, rfl, rfl, _, rfl, iteX (iteF ?bin) (fun hk3 => ⟨_, rfl, _, _, rfl, rfl, _, rfl, iteX ?bin (fun hm3 => ?whn)⟩)⟩
  case whn =>
    have hm3 : 3 < m := by
      have := of_decide_eq_true hm3
      omega
    obtain ⟨pt, ept, hp1, hp2⟩ : ∃ pt : Nat, ((m : Int) - 1) / 3 = (pt : Int) ∧ 1 ≤ pt ∧ 2 * pt + 2 ≤ m := by
      refine ⟨(((m : Int) - 1) / 3).toNat, ?_, ?_, ?_⟩ <;> omega
    refine ⟨_, rfl, _, _, rfl, rfl, _, _, rfl, rfl, ⟨by decide, by decide⟩, ?_⟩
    refine ⟨_, rfl, _, rfl, _, _, rfl, rfl, .int (pt : Int), (by rw [← ept]; rfl), _, rfl, _, rfl, .ref sa, lv, .ref ca, i + 1, pt, rfl, ⟨sa, ns, rfl, s2.seq hsl⟩, by omega, by omega, by omega, by omega, hlv.same s2, ⟨ca, cs, rfl, s2.seq hcs, hcb⟩, fun v1 H3 s3 g1 => ?_⟩
    have s4 := s2.trans s3
    refine ⟨_, rfl, _, rfl, _, _, rfl, rfl, .int (pt : Int), (by rw [← ept]; rfl), _, rfl, _, rfl, .ref sa, lv, .ref ca, i + 15, pt, rfl, ⟨sa, ns, rfl, s4.seq hsl⟩, by omega, by omega, by omega, by omega, hlv.same s4, ⟨ca, cs, rfl, s4.seq hcs, hcb⟩, fun v2 H4 s5 g2 => ?_⟩
    have s6 := s4.trans s5
    refine ⟨_, rfl, _, rfl, _, rfl, _, rfl, _, _, rfl, rfl, _, rfl, _, _, rfl, rfl, .int (pt : Int), (by rw [← ept]; rfl), _, _, rfl, rfl, .inl ⟨by decide, by decide⟩, _, _, rfl, rfl, _, rfl, _, rfl, .ref sa, lv, .ref ca, i + 29, m - 1 - 2 * pt, ?_, ⟨sa, ns, rfl, s6.seq hsl⟩, by omega, by omega, by omega, by omega, hlv.same s6, ⟨ca, cs, rfl, s6.seq hcs, hcb⟩, fun v3 H5 s7 g3 => ⟨by show 4 ≤ sizeLine; decide, fun t ht => ?_⟩⟩
    · show [_, V.int ((i : Int) + 29), V.int ((m : Int) - 1 - 2 * (pt : Int)), _, _] = [_, V.int ((i + 29 : Nat) : Int), V.int ((m - 1 - 2 * pt : Nat) : Int), _, _]
      rw [show (m : Int) - 1 - 2 * (pt : Int) = ((m - 1 - 2 * pt : Nat) : Int) from by omega]
      rfl
    · exact k _ _ (s6.trans (s7.trans (same_upd ht))) ((GoodTr.whn ((g1.same s5).same s7) (g2.same s7) g3 ht).mono (by omega))
  case bin =>
    obtain ⟨lf, elf, hl1, hl2⟩ : ∃ lf : Nat, 1 + (n1 : Int) / 56 / 4 % ((m : Int) - 2) = (lf : Int) ∧ 1 ≤ lf ∧ lf + 2 ≤ m := by
      have h1 := Int.emod_nonneg ((n1 : Int) / 56 / 4) (show ((m : Int) - 2) ≠ 0 by omega)
      have h2 := Int.emod_lt_of_pos ((n1 : Int) / 56 / 4) (show (0 : Int) < (m : Int) - 2 by omega)
      refine ⟨(1 + (n1 : Int) / 56 / 4 % ((m : Int) - 2)).toNat, ?_, ?_, ?_⟩ <;> omega
    refine ⟨_, rfl, _, _, rfl, rfl, ⟨by decide, by decide⟩, .inl ⟨_, rfl, _, rfl, _, _, rfl, rfl, _, _, rfl, rfl, (by show (0 : Int) < (m : Int) - 2; omega), _, _, rfl, rfl, ?_⟩⟩
    refine ⟨_, rfl, _, rfl, _, _, rfl, rfl, .int (lf : Int), (by rw [← elf]; rfl), _, rfl, _, rfl, .ref sa, lv, .ref ca, i + 1, lf, rfl, ⟨sa, ns, rfl, s2.seq hsl⟩, by omega, by omega, by omega, by omega, hlv.same s2, ⟨ca, cs, rfl, s2.seq hcs, hcb⟩, fun v1 H3 s3 g1 => ?_⟩
    have s4 := s2.trans s3
    refine ⟨_, rfl, _, rfl, _, _, rfl, rfl, .int (lf : Int), (by rw [← elf]; rfl), _, _, rfl, rfl, _, rfl, _, _, rfl, rfl, .int (lf : Int), (by rw [← elf]; rfl), _, _, rfl, rfl, _, rfl, _, rfl, .ref sa, lv, .ref ca, i + 2 + lf, m - 1 - lf, ?_, ⟨sa, ns, rfl, s4.seq hsl⟩, by omega, by omega, by omega, by omega, hlv.same s4, ⟨ca, cs, rfl, s4.seq hcs, hcb⟩, fun v2 H4 s5 g2 => ?_⟩
    · show [_, V.int ((i : Int) + 2 + (lf : Int)), V.int ((m : Int) - 1 - (lf : Int)), _, _] = [_, V.int ((i + 2 + lf : Nat) : Int), V.int ((m - 1 - lf : Nat) : Int), _, _]
      rw [show (m : Int) - 1 - (lf : Int) = ((m - 1 - lf : Nat) : Int) from by omega]
      rfl
    have s6 := s4.trans s5
    refine ⟨by show 4 ≤ sizeLine; decide, fun t0 ht0 => ?_⟩
    have w1 := same_upd (o := .tup [.str "sum", .str "less", .str "times", .str "same"]) ht0
    have hw := upd_same (H := H4) (a := t0) (o := .tup [.str "sum", .str "less", .str "times", .str "same"])
    obtain ⟨j, hj, ej⟩ := mod_at (x := (n1 : Int) / 56) (show 0 < 4 by decide)
    obtain ⟨o, ho⟩ : ∃ o : Op, [V.str "sum", .str "less", .str "times", .str "same"][j]? = some (V.str o.word) := by
      match j, hj with
      | 0, _ => exact ⟨.sum, rfl⟩
      | 1, _ => exact ⟨.less, rfl⟩
      | 2, _ => exact ⟨.times, rfl⟩
      | 3, _ => exact ⟨.same, rfl⟩
    refine ⟨_, rfl, .inl ⟨_, rfl, _, _, rfl, rfl, (show (0 : Int) < _ by decide), t0, _, _, _, rfl, rfl, .inl (.inl hw), (by rw [show (4 : Int) = ((4 : Nat) : Int) from rfl, ej]; exact atI_nat ho), _, rfl, _, rfl, by show 3 ≤ sizeLine; decide, fun t ht => ?_⟩⟩
    exact k _ _ (s6.trans (w1.trans (same_upd ht))) ((GoodTr.bin ((g1.same s5).same w1) (g2.same w1) ht).mono (by omega))
theorem ok_tree (T : Lw P K mg w) : ∀ n, CalX CX0 P w K mg base (n + 2) "_law_tree" (spTree K (n + 1))
  | 0 => ok_tree0 T
  | n + 1 => ok_treeS T (ok_tree T n)
end
end Km
set_option Elab.async false
set_option linter.all false
set_option maxRecDepth 100000
set_option maxHeartbeats 4000000
/-! the law's functions and plans, loosely -/
namespace Km
open PySem PySem.Spec PyProof.Rows L2
section
variable {P : Program} {w : World} {K : PySem.W.Frag} {mg : Str → Option Value} {base : Heap}
theorem GoodTr.tups {H H' : Hp} {m : Nat} {v : V} (h : GoodTr H m v) (s : Tups H H') : GoodTr H' m v := by
  obtain ⟨t, h1, h2, h3⟩ := h
  exact ⟨t, h1.tups s, h2, h3⟩
/-- the bodies of a function -/
def BodV (H : Hp) (v : V) : Prop := ∃ b ws, v = .ref b ∧ H b = some (.tup ws) ∧ 1 ≤ ws.length ∧ ws.length ≤ 3 ∧ ∀ x ∈ ws, GoodTr H 6 x
theorem BodV.tups {H H' : Hp} {v : V} (h : BodV H v) (s : Tups H H') : BodV H' v := by
  obtain ⟨b, ws, e, h1, h2, h3, h4⟩ := h
  exact ⟨b, ws, e, s _ _ h1, h2, h3, fun x hx => (h4 x hx).tups s⟩
def FnV (H : Hp) (n : Nat) (v : V) : Prop := ∃ a vs, v = .ref a ∧ H a = some (.tup vs) ∧ vs.length = n ∧ ∀ x ∈ vs, BodV H x
theorem FnV.tups {H H' : Hp} {n : Nat} {v : V} (h : FnV H n v) (s : Tups H H') : FnV H' n v := by
  obtain ⟨a, vs, e, h1, h2, h3⟩ := h
  exact ⟨a, vs, e, s _ _ h1, h2, fun x hx => (h3 x hx).tups s⟩
theorem nV_rgV (n : Nat) : rgV 0 (n : Int) = ((List.range n).map fun (k : Nat) => (k : Int)).map V.int := by
  rw [rgV_nV, nV, List.map_map]
  rfl
theorem tree_tup1 {H : Hp} {a : Addr} (ha : H a = some (.tup [.str "given"])) : GoodTr H 1 (.ref a) := ⟨.given, ⟨a, rfl, ha⟩, rfl, Nat.le_refl _⟩
theorem tree_tup2 {H : Hp} {a : Addr} (ha : H a = some (.tup [.str "setting"])) : GoodTr H 1 (.ref a) := ⟨.setting, ⟨a, rfl, ha⟩, rfl, Nat.le_refl _⟩
theorem tree_num {H : Hp} {a : Addr} {n : Int} (ha : H a = some (.tup [.str "number", .int n])) (h : 0 ≤ n ∧ n ≤ 2) : GoodTr H 1 (.ref a) :=
  ⟨.num n.toNat, ⟨a, rfl, by rw [ha, Int.toNat_of_nonneg h.1]⟩, by simp only [Tr.wf, decide_eq_true_eq]; omega, Nat.le_refl _⟩
theorem tree_col {H : Hp} {a : Addr} {n : Int} (ha : H a = some (.tup [.str "column", .int n])) (h : 0 ≤ n ∧ n ≤ 1) : GoodTr H 1 (.ref a) :=
  ⟨.col n.toNat, ⟨a, rfl, by rw [ha, Int.toNat_of_nonneg h.1]⟩, by simp only [Tr.wf, decide_eq_true_eq]; omega, Nat.le_refl _⟩
theorem tree_kept {H : Hp} {a : Addr} {n : Int} (ha : H a = some (.tup [.str "kept", .int n])) (h : 0 ≤ n ∧ n ≤ 1) : GoodTr H 1 (.ref a) :=
  ⟨.kept n.toNat, ⟨a, rfl, by rw [ha, Int.toNat_of_nonneg h.1]⟩, by simp only [Tr.wf, decide_eq_true_eq]; omega, Nat.le_refl _⟩
theorem scFnL : FnScope ["script", "at", "base", "most", "found", "seed", "leaves", "function", "rows", "many", "body", "spot"] ["script", "at", "base", "most"] (defScope (top 63)) := ⟨rfl, rfl, rfl, by decide +kernel, rfl, by decide +kernel, by decide +kernel⟩
def spFnL (K : PySem.W.Frag) : Sp := fun vs H Q _ => ∃ (sv : V) (i b m : Nat), vs = [sv, .int (i : Int), .int (b : Int), .int (m : Int)] ∧ ScAt K H sv ∧ i ≤ 900000 ∧ 1 ≤ b ∧ b ≤ 3 ∧ 1 ≤ m ∧ m ≤ 3 ∧ ∀ n v H', Same H H' → 1 ≤ n → n ≤ m → FnV H' n v → Q v H'
theorem ok_funsL (T : Lw P K mg w) : CalX CX0 P w K mg base 9 "_law_functions" (spFnL K) := by
  refine cal_of T.dFunctions scFnL (fun _ _ _ _ _ _ us hl => match us, hl with | [_, _, _, _], _ => rfl) (fun vs H Q E ⟨sv, i, b, m, e, _⟩ => by rw [e]; rfl) ?_
  rintro f cdv A outer s H vs Q E hr ⟨sv, i, b, m, rfl, hs, hi, hb1, hb3, hm1, hm3, k⟩
  have nd := scFnL.nd
  have B := T.t.r.f.B
  refine ⟨_, pss_cons (ps_par (i := 4) (j := 5) rfl nd rfl rfl (by decide) rfl rfl (pa_cons (pe_lst pa_nil) (pa_cons (pe_callTy call_int1 (by rfl) B.int_ (by decide +kernel) (pa_cons (pe_cx (ok_num T) hr pass0 (by rfl) (pa_cons (pv 0) (pa_cons (pv 1) pa_nil))) pa_nil)) pa_nil)) (by rfl))
    (pss_cons (ps_set (i := 6) nd rfl (Or.inl rfl) (pe_lst (pa_cons (pe_tup (pa_cons pe_str pa_nil)) (pa_cons (pe_tup (pa_cons pe_str pa_nil)) (pa_cons (pe_tup (pa_cons pe_str pa_nil)) (pa_cons (pe_tup (pa_cons pe_str (pa_cons pe_int pa_nil))) (pa_cons (pe_tup (pa_cons pe_str (pa_cons pe_int pa_nil))) (pa_cons (pe_tup (pa_cons pe_str (pa_cons (pe_op op_sub (pv 2) pe_int) pa_nil))) pa_nil))))))))
    (pss_cons (ps_for (passes_of rfl) rfl (pi_range1 (by rfl) B.range_ (pa_cons (pe_op op_add pe_int (pe_op op_mod (pe_callTy call_int1 (by rfl) B.int_ (by decide +kernel) (pa_cons (pv 5) pa_nil)) (pv 3))) pa_nil)) (pg_name (i := 7) nd rfl (Or.inl rfl))
      (pss_cons (ps_par (i := 8) (j := 9) rfl nd rfl rfl (by decide) rfl rfl (pa_cons (pe_lst pa_nil) (pa_cons (pe_ix ix_tup (pe_tup (pa_cons pe_int (pa_cons pe_int (pa_cons pe_int (pa_cons pe_int pa_nil))))) (pe_op op_mod (pe_callTy call_int1 (by rfl) B.int_ (by decide +kernel) (pa_cons (pe_op op_fdiv (pv 5) (pe_ix ix_tup (pe_tup (pa_cons pe_int (pa_cons pe_int (pa_cons pe_int pa_nil)))) (pv 7) (fun _ _ => rfl))) pa_nil)) pe_int) (fun _ _ => rfl)) pa_nil)) (by rfl))
      (pss_cons (ps_for (passes_of rfl) rfl (pi_range1 (by rfl) B.range_ (pa_cons (pv 9) pa_nil)) (pg_name (i := 10) nd rfl (Or.inl rfl))
        (pss_cons (ps_set (i := 11) nd rfl (Or.inl rfl) (pe_op op_add (pe_op op_add (pe_op op_add (pv 1) pe_int) (pe_op op_mul pe_int (pv 7))) (pe_op op_mul pe_int (pv 10))))
        (pss_one (ps_expr (pe_bm PySem.F.plainAttrs_list PySem.F.slot_list_append PySem.F.type_list_append mt_append (pv 8) (pa_cons (pe_cx (ok_tree T 5) hr pass0 (by rfl) (pa_cons (pv 0) (pa_cons (pv 11) (pa_cons (pe_op op_add pe_int (pe_op op_mod (pe_callTy call_int1 (by rfl) B.int_ (by decide +kernel) (pa_cons (pe_cx (ok_num T) hr pass0 (by rfl) (pa_cons (pv 0) (pa_cons (pe_op op_add (pv 11) pe_int) pa_nil))) pa_nil)) pe_int)) (pa_cons (pv 6) (pa_cons (pe_listRg rfl (by rfl) B.list_ (prg_1 (by rfl) B.range_ (pv 7))) pa_nil)))))) pa_nil))))))
      (pss_one (ps_expr (pe_bm PySem.F.plainAttrs_list PySem.F.slot_list_append PySem.F.type_list_append mt_append (pv 4) (pa_cons (pe_callTy call_tuple_of (by rfl) B.tuple_ (by decide +kernel) (pa_cons (pv 8) pa_nil)) pa_nil)))))))
    (pss_one (ps_ret (pe_callTy call_tuple_of (by rfl) B.tuple_ (by decide +kernel) (pa_cons (pv 4) pa_nil)))))), ?_⟩
  obtain ⟨sa, ns, rfl, hsl⟩ := hs
  refine ⟨Nat.zero_le _, fun fl hfl => ?_⟩
  have s0 := same_upd (o := .lst []) hfl
  have hflv := upd_same (H := H) (a := fl) (o := .lst [])
  generalize upd H fl (.lst []) = H0 at s0 hflv
  refine ⟨_, rfl, _, rfl, sa, ns, i, rfl, s0.seq hsl, by omega, fun n1 H1 s1 hn => .inl ⟨_, rfl, _, _, rfl, ?_⟩⟩
  have hflv := s1 _ _ hflv
  have s1 := s0.trans s1
  have L1 : 1 ≤ sizeLine := by show 1 ≤ sizeLine; decide
  have L2' : 2 ≤ sizeLine := by show 2 ≤ sizeLine; decide
  refine ⟨L1, fun a1 h1 => ⟨L1, fun a2 h2 => ⟨L1, fun a3 h3 => ⟨L2', fun a4 h4 => ⟨L2', fun a5 h5 => ⟨_, rfl, _, _, rfl, rfl, L2', fun a6 h6 => ⟨(by show 6 ≤ sizeLine; decide), fun lvA h7 => ?_⟩⟩⟩⟩⟩⟩⟩
  have u1 := same_upd (o := .tup [.str "given"]) h1
  have u2 := same_upd (o := .tup [.str "given"]) h2
  have u3 := same_upd (o := .tup [.str "setting"]) h3
  have u4 := same_upd (o := .tup [.str "number", .int 1]) h4
  have u5 := same_upd (o := .tup [.str "number", .int 0]) h5
  have u6 := same_upd (o := .tup [.str "number", .int ((b : Int) - 1)]) h6
  have u7 := same_upd (o := .lst [.ref a1, .ref a2, .ref a3, .ref a4, .ref a5, .ref a6]) h7
  have g6 := u7 _ _ (upd_same (o := .tup [.str "number", .int ((b : Int) - 1)]))
  have g5 := u7 _ _ (u6 _ _ (upd_same (o := .tup [.str "number", .int 0])))
  have g4 := u7 _ _ (u6 _ _ (u5 _ _ (upd_same (o := .tup [.str "number", .int 1]))))
  have g3 := u7 _ _ (u6 _ _ (u5 _ _ (u4 _ _ (upd_same (o := .tup [.str "setting"])))))
  have g2 := u7 _ _ (u6 _ _ (u5 _ _ (u4 _ _ (u3 _ _ (upd_same (o := .tup [.str "given"]))))))
  have g1 := u7 _ _ (u6 _ _ (u5 _ _ (u4 _ _ (u3 _ _ (u2 _ _ (upd_same (o := .tup [.str "given"])))))))
  have s17 := u1.trans (u2.trans (u3.trans (u4.trans (u5.trans (u6.trans u7)))))
  have hlv := upd_same (H := upd (upd (upd (upd (upd (upd H1 a1 (.tup [.str "given"])) a2 (.tup [.str "given"])) a3 (.tup [.str "setting"])) a4 (.tup [.str "number", .int 1])) a5 (.tup [.str "number", .int 0])) a6 (.tup [.str "number", .int ((b : Int) - 1)])) (a := lvA) (o := .lst [.ref a1, .ref a2, .ref a3, .ref a4, .ref a5, .ref a6])
  have hne0 : fl ≠ lvA := ne_of_none ((u1.trans (u2.trans (u3.trans (u4.trans (u5.trans u6))))) _ _ hflv) h7
  have hlvH : H lvA = none := Same.free (s1.trans (u1.trans (u2.trans (u3.trans (u4.trans (u5.trans u6)))))) h7
  generalize upd (upd (upd (upd (upd (upd (upd H1 a1 (.tup [.str "given"])) a2 (.tup [.str "given"])) a3 (.tup [.str "setting"])) a4 (.tup [.str "number", .int 1])) a5 (.tup [.str "number", .int 0])) a6 (.tup [.str "number", .int ((b : Int) - 1)])) lvA (.lst [.ref a1, .ref a2, .ref a3, .ref a4, .ref a5, .ref a6]) = H2 at g1 g2 g3 g4 g5 g6 s17 hlv
  have hleaf : ∀ x ∈ [V.ref a1, .ref a2, .ref a3, .ref a4, .ref a5, .ref a6], GoodTr H2 1 x := fun x hx => by
    simp only [List.mem_cons, List.not_mem_nil, or_false] at hx
    rcases hx with rfl | rfl | rfl | rfl | rfl | rfl
    · exact tree_tup1 g1
    · exact tree_tup1 g2
    · exact tree_tup2 g3
    · exact tree_num g4 (by decide)
    · exact tree_num g5 (by decide)
    · exact tree_num g6 (by omega)
  have hlvs : 0 < [V.ref a1, .ref a2, .ref a3, .ref a4, .ref a5, .ref a6].length := by show 0 < 6; decide
  generalize [V.ref a1, .ref a2, .ref a3, .ref a4, .ref a5, .ref a6] = lvs at hlv hleaf hlvs
  have hflv := s17 _ _ hflv
  have s2 := s1.trans s17
  obtain ⟨c, ec, hc1, hc3⟩ : ∃ c : Nat, 1 + (n1 : Int) % (m : Int) = (c : Int) ∧ 1 ≤ c ∧ c ≤ m := by
    have h1 := Int.emod_nonneg (n1 : Int) (show (m : Int) ≠ 0 by omega)
    have h2 := Int.emod_lt_of_pos (n1 : Int) (show (0 : Int) < m by omega)
    exact ⟨(1 + (n1 : Int) % (m : Int)).toNat, by omega, by omega, by omega⟩
  refine ⟨_, rfl, .inl ⟨_, rfl, _, rfl, _, _, rfl, rfl, (by show (0 : Int) < (m : Int); omega), _, _, rfl, rfl, (c : Int), (by rw [← ec]), by omega, by omega, for_range (n := c) (fun k σ H' => ∃ vs x7 x8 x9 x10 x11, σ = [some (.ref sa), some (.int (i : Int)), some (.int (b : Int)), some (.int (m : Int)), some (.ref fl), some (.int (n1 : Int)), some (.ref lvA), x7, x8, x9, x10, x11] ∧ Same H H' ∧ Tups H2 H' ∧ H' lvA = some (.lst lvs) ∧ H' fl = some (.lst vs) ∧ vs.length = k ∧ ∀ x ∈ vs, BodV H' x)
    ⟨[], _, _, _, _, _, rfl, s2, Tups.refl _, hlv, hflv, rfl, fun x hx => by cases hx⟩ ?_ ?_⟩⟩
  · rintro k σ H3 hk ⟨vs, x7, x8, x9, x10, x11, rfl, s3, tp3, hlv3, hfl3, hvl, hbv⟩
    refine ⟨Nat.zero_le _, fun rl hrl => ?_⟩
    have v1 := same_upd (o := .lst []) hrl
    have hrlv := upd_same (H := H3) (a := rl) (o := .lst [])
    have hne1 : fl ≠ rl := ne_of_none hfl3 hrl
    have hne2 : lvA ≠ rl := ne_of_none hlv3 hrl
    have hrlH : H rl = none := Same.free s3 hrl
    generalize upd H3 rl (.lst []) = H4 at v1 hrlv
    refine ⟨(by show 4 ≤ sizeLine; decide), fun t4 ht4 => ⟨_, rfl, (by show 3 ≤ sizeLine; decide), fun t3 ht3 => ?_⟩⟩
    have v2 := same_upd (o := .tup [.int 2, .int 1, .int 3, .int 2]) ht4
    have v3 := same_upd (o := .tup [.int 3, .int 12, .int 48]) ht3
    have y4 := v3 _ _ (upd_same (H := H4) (a := t4) (o := .tup [.int 2, .int 1, .int 3, .int 2]))
    have y3 := upd_same (H := upd H4 t4 (.tup [.int 2, .int 1, .int 3, .int 2])) (a := t3) (o := .tup [.int 3, .int 12, .int 48])
    have v4 := v1.trans (v2.trans v3)
    have hrlv := v3 _ _ (v2 _ _ hrlv)
    generalize upd (upd H4 t4 (.tup [.int 2, .int 1, .int 3, .int 2])) t3 (.tup [.int 3, .int 12, .int 48]) = H5 at y4 y3 v4 hrlv
    obtain ⟨dv, hdv, hd1, hd2⟩ : ∃ dv : Int, [V.int 3, .int 12, .int 48][k]? = some (.int dv) ∧ 0 < dv ∧ dv < 1073741824 := by
      match k, (show k < 3 by omega) with
      | 0, _ => exact ⟨3, rfl, by decide, by decide⟩
      | 1, _ => exact ⟨12, rfl, by decide, by decide⟩
      | 2, _ => exact ⟨48, rfl, by decide, by decide⟩
    obtain ⟨j, hj, ej⟩ := mod_at (x := (n1 : Int) / dv) (show 0 < 4 by decide)
    obtain ⟨md, hmd, hm1', hm3'⟩ : ∃ md : Nat, [V.int 2, .int 1, .int 3, .int 2][j]? = some (.int (md : Int)) ∧ 1 ≤ md ∧ md ≤ 3 := by
      match j, hj with
      | 0, _ => exact ⟨2, rfl, by decide, by decide⟩
      | 1, _ => exact ⟨1, rfl, by decide, by decide⟩
      | 2, _ => exact ⟨3, rfl, by decide, by decide⟩
      | 3, _ => exact ⟨2, rfl, by decide, by decide⟩
    refine ⟨_, rfl, t3, _, _, .int dv, rfl, rfl, .inl (.inl y3), (by rw [Int.zero_add]; exact atI_nat hdv), _, _, rfl, rfl, ⟨hd1, hd2⟩, .inl ⟨_, rfl, _, _, rfl, rfl, (show (0 : Int) < _ by decide), t4, _, _, .int (md : Int), rfl, rfl, .inl (.inl y4), (by rw [show (4 : Int) = ((4 : Nat) : Int) from rfl, ej]; exact atI_nat hmd), _, _, rfl, ?_⟩⟩
    have s5 := s3.trans v4
    refine ⟨_, rfl, (md : Int), rfl, by omega, by omega, for_range (n := md) (fun q σ H' => ∃ ws x10 x11, σ = [some (.ref sa), some (.int (i : Int)), some (.int (b : Int)), some (.int (m : Int)), some (.ref fl), some (.int (n1 : Int)), some (.ref lvA), some (.int (0 + (k : Int))), some (.ref rl), some (.int (md : Int)), x10, x11] ∧ Same H H' ∧ Tups H5 H' ∧ H' lvA = some (.lst lvs) ∧ H' fl = some (.lst vs) ∧ H' rl = some (.lst ws) ∧ ws.length = q ∧ ∀ x ∈ ws, GoodTr H' 6 x)
      ⟨[], _, _, rfl, s5, Tups.refl _, v4 _ _ hlv3, v4 _ _ hfl3, hrlv, rfl, fun x hx => by cases hx⟩ ?_ ?_⟩
    · rintro q σ H6 hq ⟨ws, x10, x11, rfl, s6, tp6, hlv6, hfl6, hrl6, hwl, hwg⟩
      have tp26 : Tups H2 H6 := tp3.trans ((Same.tups v4).trans tp6)
      refine ⟨_, rfl, _, _, rfl, rfl, _, rfl, _, _, rfl, rfl, .inl ⟨by decide, by decide⟩, _, _, rfl, rfl, _, rfl, _, _, rfl, rfl, .inl ⟨by decide, by decide⟩, _, _, rfl, rfl, ?_⟩
      obtain ⟨sp, esp, hsp⟩ : ∃ sp : Nat, (i : Int) + 1 + 60 * (0 + (k : Int)) + 20 * (0 + (q : Int)) = (sp : Int) ∧ sp ≤ 900300 := ⟨i + 1 + 60 * k + 20 * q, by omega, by omega⟩
      refine ⟨_, rfl, .inl ⟨rfl, _, SqL.of hrl6⟩, _, rfl, .int (sp : Int), (by rw [← esp]; rfl), _, rfl, .int (sp : Int), (by rw [← esp]; rfl), _, _, rfl, rfl, sa, ns, sp + 19, rfl, s6.seq hsl, by omega, fun n2 H7 s7 hn2 => ?_⟩
      obtain ⟨mm, emm, hmm1, hmm6⟩ : ∃ mm : Nat, 1 + (n2 : Int) % 6 = (mm : Int) ∧ 1 ≤ mm ∧ mm ≤ 6 := ⟨(1 + (n2 : Int) % 6).toNat, by omega, by omega, by omega⟩
      refine .inl ⟨_, rfl, _, _, rfl, rfl, (show (0 : Int) < _ by decide), _, _, rfl, rfl, _, rfl, _, rfl, _, rfl, RgOk.of_le (by omega) (by omega) (by omega) (by omega), fun q1 hq1 => ?_⟩
      have s8 := s7.trans (same_upd (o := .lst (rgV 0 (0 + (k : Int)))) hq1)
      have hq1v := upd_same (H := H7) (a := q1) (o := .lst (rgV 0 (0 + (k : Int))))
      generalize upd H7 q1 (.lst (rgV 0 (0 + (k : Int)))) = H8 at s8 hq1v
      rw [Int.zero_add, nV_rgV] at hq1v
      have s9 := s6.trans s8
      refine ⟨.ref sa, .ref lvA, .ref q1, sp, mm, (by rw [← emm]; rfl), ⟨sa, ns, rfl, s9.seq hsl⟩, by omega, by decide, hmm1, hmm6, ⟨lvA, lvs, rfl, SqL.of (s8 _ _ hlv6), hlvs, fun x hx => (hleaf x hx).tups (tp26.trans (Same.tups s8))⟩, ⟨q1, _, rfl, SqL.of hq1v, fun x hx => ?_⟩, fun v H9 s10 g => ?_⟩
      · obtain ⟨y, hy, rfl⟩ := List.mem_map.mp hx
        have := List.mem_range.mp hy
        omega
      have s11 := s8.trans s10
      have hrl9 := s11 _ _ hrl6
      refine ⟨rl, ws, v, rfl, rfl, hrl9, (by rw [sizeLine_eq]; omega), ws ++ [v], _, _, rfl, ?_, tp6.trans ((Same.tups s11).trans (tups_lst hrl9)), ?_, ?_, upd_same, (by rw [List.length_append, List.length_singleton, hwl]), fun x hx => ?_⟩
      · exact fun b o e => by
          rw [upd_ne (ne_of_none e hrlH)]
          exact (s6.trans s11) _ _ e
      · rw [upd_ne hne2]; exact s11 _ _ hlv6
      · rw [upd_ne hne1]; exact s11 _ _ hfl6
      · rcases List.mem_append.mp hx with hx | hx
        · exact ((hwg x hx).same s11).tups (tups_lst hrl9)
        · rw [List.mem_singleton.mp hx]
          exact (g.mono hmm6).tups (tups_lst hrl9)
    · rintro σ H6 ⟨ws, x10, x11, rfl, s6, tp6, hlv6, hfl6, hrl6, hwl, hwg⟩
      refine ⟨_, rfl, .inl ⟨rfl, _, SqL.of hfl6⟩, _, rfl, rl, _, rfl, .inl ⟨SqL.of hrl6, fun t ht => ?_⟩⟩
      have w1 := same_upd (o := .tup ws) ht
      have hfl7 := w1 _ _ hfl6
      have ht7 := upd_same (H := H6) (a := t) (o := .tup ws)
      have hlv7 := w1 _ _ hlv6
      have s7 := s6.trans w1
      have tp7 := tp6.trans (Same.tups w1)
      have hwg7 : ∀ x ∈ ws, GoodTr (upd H6 t (.tup ws)) 6 x := fun x hx => (hwg x hx).same w1
      generalize upd H6 t (.tup ws) = H7 at hfl7 ht7 hlv7 s7 tp7 hwg7
      have hflH : H fl = none := hfl
      have tpE : Tups H7 (upd H7 fl (.lst (vs ++ [.ref t]))) := tups_lst hfl7
      refine ⟨fl, vs, _, rfl, rfl, hfl7, (by rw [sizeLine_eq]; omega), vs ++ [.ref t], _, _, _, _, _, rfl, ?_, tp3.trans ((Same.tups v4).trans (tp7.trans tpE)), ?_, upd_same, (by rw [List.length_append, List.length_singleton, hvl]), fun x hx => ?_⟩
      · exact fun b o e => by
          rw [upd_ne (ne_of_none e hflH)]
          exact s7 _ _ e
      · rw [upd_ne (Ne.symm hne0)]; exact hlv7
      · rcases List.mem_append.mp hx with hx | hx
        · exact (hbv x hx).tups ((Same.tups v4).trans (tp7.trans tpE))
        · rw [List.mem_singleton.mp hx]
          exact ⟨t, ws, rfl, tpE _ _ ht7, by omega, by omega, fun y hy => (hwg7 y hy).tups tpE⟩
  · rintro σ H3 ⟨vs, x7, x8, x9, x10, x11, rfl, s3, tp3, hlv3, hfl3, hvl, hbv⟩
    refine ⟨_, rfl, fl, _, rfl, .inl ⟨SqL.of hfl3, fun t ht => ?_⟩⟩
    exact k c _ _ (s3.trans (same_upd ht)) hc1 hc3 ⟨t, vs, rfl, upd_same, hvl, fun x hx => (hbv x hx).tups (Same.tups (same_upd ht))⟩
end
end Km
set_option Elab.async false
set_option linter.all false
set_option maxRecDepth 100000
set_option maxHeartbeats 4000000
/-! the law's plans, loosely -/
namespace Km
open PySem PySem.Spec PyProof.Rows L2
section
variable {P : Program} {w : World} {K : PySem.W.Frag} {mg : Str → Option Value} {base : Heap}
/-- some digits -/
def SmV (H : Hp) (v : V) : Prop := ∃ a, ∃ ns : List Nat, v = .ref a ∧ H a = some (.tup (nV ns)) ∧ ns.length ≤ 3 ∧ ∀ n ∈ ns, n ≤ 2
theorem SmV.tups {H H' : Hp} {v : V} (h : SmV H v) (s : Tups H H') : SmV H' v := by
  obtain ⟨a, ns, e, h1, h2⟩ := h
  exact ⟨a, ns, e, s _ _ h1, h2⟩
theorem scSome : FnScope ["script", "at", "many", "least", "found", "one"] ["script", "at", "many", "least"] (defScope (top 64)) := ⟨rfl, rfl, rfl, by decide +kernel, rfl, by decide +kernel, by decide +kernel⟩
def spSome (K : PySem.W.Frag) : Sp := fun vs H Q _ => ∃ (sv : V) (i m l : Nat), vs = [sv, .int (i : Int), .int (m : Int), .int (l : Int)] ∧ ScAt K H sv ∧ i ≤ 900000 ∧ 1 ≤ m ∧ m ≤ 3 ∧ ∀ v H', Same H H' → SmV H' v → Q v H'
theorem zadd (j : Nat) : some (some (V.int (0 + (j : Int)))) = some (some (V.int (j : Int))) := by rw [Int.zero_add]
theorem nV_snoc (ns : List Nat) (n : Nat) : nV ns ++ [V.int (n : Int)] = nV (ns ++ [n]) := by unfold nV; rw [List.map_append]; rfl
theorem ok_some (T : Lw P K mg w) : CalX CX0 P w K mg base 2 "_law_some" (spSome K) := by
  refine cal_of T.dSome scSome (fun _ _ _ _ _ _ us hl => match us, hl with | [_, _, _, _], _ => rfl) (fun vs H Q E ⟨sv, i, b, m, e, _⟩ => by rw [e]; rfl) ?_
  rintro f cdv A outer s H vs Q E hr ⟨sv, i, m, l, rfl, hs, hi, hm1, hm3, k⟩
  have nd := scSome.nd
  have B := T.t.r.f.B
  refine ⟨_, pss_cons (ps_set (i := 4) nd rfl (Or.inl rfl) (pe_callTy call_tuple_of (by rfl) B.tuple_ (by decide +kernel) (pa_cons
      (pe_lc (own := [("one", 5)]) (by rfl) nd (pi_range1 (by rfl) B.range_ (pa_cons (pv 2) pa_nil)) (blkOk_by (N := ["script", "at", "many", "least", "found", "one"]) (sc := defScope (top 64)) (by decide +kernel))
        (fun _ _ _ _ _ => pg_name (i := 5) nd rfl (Or.inl rfl)) (fun _ _ _ _ _ => pts_one (pt_cmpR op_gt (pe_op op_mod (pe_callTy call_int1 (by rfl) B.int_ (by decide +kernel) (pa_cons (pe_cx (ok_num T) hr pass0 (by rfl) (pa_cons (pv 0) (pa_cons (pe_op op_add (pv 1) (pv 5)) pa_nil))) pa_nil)) pe_int) pe_int (nomark _))) (fun _ _ _ _ _ => pv 5)) pa_nil)))
    (pss_one (ps_ret (pe_ifExp (pt_cmpR op_ge (pe_callB call_len (by rfl) B.len_ PySem.boot_len (pa_cons (pv 4) pa_nil)) (pv 3) (nomark _)) (pv 4)
      (pe_tup (pa_cons (pe_op op_mod (pe_callTy call_int1 (by rfl) B.int_ (by decide +kernel) (pa_cons (pe_cx (ok_num T) hr pass0 (by rfl) (pa_cons (pv 0) (pa_cons (pe_op op_add (pv 1) pe_int) pa_nil))) pa_nil)) (pv 2)) pa_nil))))), ?_⟩
  obtain ⟨sa, ns, rfl, hsl⟩ := hs
  refine ⟨_, rfl, (m : Int), rfl, by omega, by omega, fun D hD => lc_range (n := m) (fun i H' => Same H H' ∧ ∃ xs : List Nat, H' D = some (.lst (nV xs)) ∧ xs.length ≤ i ∧ ∀ n ∈ xs, n ≤ 2) ⟨same_upd hD, [], upd_same, Nat.zero_le _, fun n hn => by cases hn⟩ ?_ ?_⟩
  · rintro j H1 hj ⟨s1, xs, hx1, hx2, hx3⟩
    refine ⟨rfl, _, rfl, _, rfl, .int (j : Int), (zadd j), _, _, rfl, rfl, sa, ns, i + j, rfl, s1.seq hsl, by omega, fun n H2 s2 hn => .inl ⟨_, rfl, _, _, rfl, rfl, (show (0 : Int) < _ by decide), _, _, rfl, rfl, _, rfl, ?_⟩⟩
    refine iteP ⟨.int (j : Int), (zadd j), nV xs, s2 _ _ hx1, (by rw [nV, List.length_map, sizeLine_eq]; omega), ?_⟩ ⟨s1.trans s2, xs, s2 _ _ hx1, by omega, hx3⟩
    refine ⟨same_new (s1.trans s2) hD, xs ++ [j], by rw [upd_same, nV_snoc], by rw [List.length_append, List.length_singleton]; omega, fun n hn => ?_⟩
    rcases List.mem_append.mp hn with hn | hn
    · exact hx3 n hn
    · rw [List.mem_singleton.mp hn]; omega
  · rintro H1 ⟨s1, xs, hx1, hx2, hx3⟩
    refine ⟨D, _, rfl, .inl ⟨SqL.of hx1, fun t ht => ?_⟩⟩
    have s2 := s1.trans (same_upd (o := .tup (nV xs)) ht)
    have hq := upd_same (H := H1) (a := t) (o := .tup (nV xs))
    generalize upd H1 t (.tup (nV xs)) = H2 at s2 hq
    refine ⟨_, rfl, _, _, rfl, .inr ⟨_, .inl (.inl hq), rfl⟩, _, rfl, _, _, rfl, rfl, _, rfl, iteP ⟨_, rfl, ?_⟩ ?_⟩
    · exact k _ _ s2 ⟨t, xs, rfl, hq, by omega, hx3⟩
    · refine ⟨_, rfl, _, rfl, _, _, rfl, rfl, sa, ns, i + 5, rfl, s2.seq hsl, by omega, fun n H3 s3 hn => .inl ⟨_, rfl, _, rfl, _, _, rfl, rfl, (by show (0 : Int) < (m : Int); omega), by show 1 ≤ sizeLine; decide, fun u hu => ?_⟩⟩
      obtain ⟨j, hj, ej⟩ := mod_at (x := (n : Int)) (show 0 < m by omega)
      refine k _ _ (s2.trans (s3.trans (same_upd hu))) ⟨u, [j], rfl, ?_, by show 1 ≤ 3; decide, fun n hn => ?_⟩
      · rw [upd_same]
        show some (HO.tup [V.int ((n : Int) % (m : Int))]) = _
        rw [ej]
        rfl
      · rw [List.mem_singleton.mp hn]; omega
end
end Km
set_option Elab.async false
set_option linter.all false
set_option maxRecDepth 100000
set_option maxHeartbeats 4000000
/-! the law's plans, loosely -/
namespace Km
open PySem PySem.Spec PyProof.Rows L2
section
variable {P : Program} {w : World} {K : PySem.W.Frag} {mg : Str → Option Value} {base : Heap}
/-! ### _law_plan -/
theorem ix_listK (K : PySem.W.Frag) {X : Cx} (h : X.K = K) : IxR X (rIxL K) := h ▸ ix_list
theorem rep2 (xs : List V) : (List.replicate (2 : Int).toNat xs).flatten = xs ++ xs := by
  show (List.replicate 2 xs).flatten = _
  simp [List.replicate]
theorem tups_dk {H : Hp} {d : Addr} {L : List (Key × V)} {o : HO} (h : H d = some (.dK L)) : Tups H (upd H d o) := fun b xs e => by
  rw [upd_ne (ne_of e h (by intro z; cases z))]
  exact e
theorem kd3 (x y z : V) : mergeK [] [(.inr "base", x), (.inr "settings", y), (.inr "functions", z)] = [(.inr "base", x), (.inr "settings", y), (.inr "functions", z)] := by rfl
theorem kd4 (x y z c : V) : putK [((.inr "base" : Key), x), (.inr "settings", y), (.inr "functions", z)] (.inr "columns") c = [(.inr "base", x), (.inr "settings", y), (.inr "functions", z), (.inr "columns", c)] := by rfl
theorem kd5 (x y z c t : V) : putK [((.inr "base" : Key), x), (.inr "settings", y), (.inr "functions", z), (.inr "columns", c)] (.inr "things") t = [(.inr "base", x), (.inr "settings", y), (.inr "functions", z), (.inr "columns", c), (.inr "things", t)] := by rfl
theorem kd6 (x y z c t f : V) : putK [((.inr "base" : Key), x), (.inr "settings", y), (.inr "functions", z), (.inr "columns", c), (.inr "things", t)] (.inr "free") f = [(.inr "base", x), (.inr "settings", y), (.inr "functions", z), (.inr "columns", c), (.inr "things", t), (.inr "free", f)] := by rfl
theorem kd7 (x y z c t f g : V) : putK [((.inr "base" : Key), x), (.inr "settings", y), (.inr "functions", z), (.inr "columns", c), (.inr "things", t), (.inr "free", f)] (.inr "writers") g = [(.inr "base", x), (.inr "settings", y), (.inr "functions", z), (.inr "columns", c), (.inr "things", t), (.inr "free", f), (.inr "writers", g)] := by rfl
theorem kd8 (x y z c t f g h : V) : putK [((.inr "base" : Key), x), (.inr "settings", y), (.inr "functions", z), (.inr "columns", c), (.inr "things", t), (.inr "free", f), (.inr "writers", g)] (.inr "askers") h = [(.inr "base", x), (.inr "settings", y), (.inr "functions", z), (.inr "columns", c), (.inr "things", t), (.inr "free", f), (.inr "writers", g), (.inr "askers", h)] := by rfl
/-- the things of a drawn plan -/
def ThV (H : Hp) (v : V) : Prop := ∃ a, ∃ mo : Mode, ∃ u, v = .ref a ∧ H a = some (.tup [.str mo.str, u]) ∧ GoodTr H 6 u
theorem ThV.tups {H H' : Hp} {v : V} (h : ThV H v) (s : Tups H H') : ThV H' v := by
  obtain ⟨a, mo, u, e, h1, h2⟩ := h
  exact ⟨a, mo, u, e, s _ _ h1, h2.tups s⟩
def TsV (H : Hp) (v : V) : Prop := ∃ a vs, v = .ref a ∧ H a = some (.tup vs) ∧ vs.length ≤ 3 ∧ ∀ x ∈ vs, ThV H x
theorem TsV.tups {H H' : Hp} {v : V} (h : TsV H v) (s : Tups H H') : TsV H' v := by
  obtain ⟨a, vs, e, h1, h2, h3⟩ := h
  exact ⟨a, vs, e, s _ _ h1, h2, fun x hx => (h3 x hx).tups s⟩
def SzV (H : Hp) (v : V) : Prop := ∃ a, ∃ b st c mo mn : Nat, v = .ref a ∧ H a = some (.tup [.int (b : Int), .int (st : Int), .int (c : Int), .int (mo : Int), .int (mn : Int)]) ∧ (2 ≤ b ∧ b ≤ 3) ∧ (1 ≤ st ∧ st ≤ 3) ∧ (1 ≤ c ∧ c ≤ 2) ∧ (1 ≤ mo ∧ mo ≤ 3) ∧ (1 ≤ mn ∧ mn ≤ 3)
theorem SzV.tups {H H' : Hp} {v : V} (h : SzV H v) (s : Tups H H') : SzV H' v := by
  obtain ⟨a, b, st, c, mo, mn, e, h1, h2⟩ := h
  exact ⟨a, b, st, c, mo, mn, e, s _ _ h1, h2⟩
/-- a drawn plan -/
def PlV (H : Hp) (v : V) : Prop := ∃ a, ∃ b st c n : Nat, ∃ fv tv xv yv zv : V, v = .ref a ∧ H a = some (.dK [(.inr "base", .int (b : Int)), (.inr "settings", .int (st : Int)), (.inr "functions", fv), (.inr "columns", .int (c : Int)), (.inr "things", tv), (.inr "free", xv), (.inr "writers", yv), (.inr "askers", zv)]) ∧
  b ≤ 3 ∧ st ≤ 3 ∧ c ≤ 2 ∧ n ≤ 3 ∧ FnV H n fv ∧ TsV H tv ∧ SmV H xv ∧ SmV H yv ∧ SmV H zv
theorem scPlanL : FnScope ["script", "at", "sizes", "base", "settings", "columns", "most", "many", "functions", "things", "every", "thing", "leaves", "spot", "mode", "tree", "found", "c", "t"] ["script", "at", "sizes"] (defScope (top 65)) := ⟨rfl, rfl, rfl, by decide +kernel, rfl, by decide +kernel, by decide +kernel⟩
def spPlanL (K : PySem.W.Frag) : Sp := fun vs H Q _ => ∃ (sv : V) (i : Nat) (a : Addr) (xs : List V), vs = [sv, .int (i : Int), .ref a] ∧ ScAt K H sv ∧ i ≤ 1000 ∧ SqL K H a xs ∧ 0 < xs.length ∧ (∀ x ∈ xs, SzV H x) ∧ ∀ v H', Same H H' → PlV H' v → Q v H'
theorem ok_planL (T : Lw P K mg w) : CalX CX0 P w K mg base 10 "_law_plan" (spPlanL K) := by
  refine cal_of T.dPlan scPlanL (fun _ _ _ _ _ _ us hl => match us, hl with | [_, _, _], _ => rfl) (fun vs H Q E ⟨sv, i, a, xs, e, _⟩ => by rw [e]; rfl) ?_
  rintro f cdv A outer s H vs Q E hr ⟨sv, i, szl, xs, rfl, hs, hi, hxs, hx0, hxz, k⟩
  have nd := scPlanL.nd
  have B := T.t.r.f.B
  have hu1 : ∀ {n : Nat}, n + 64 < cLine → n + 1 < cLine := fun h => by omega
  refine ⟨_, pss_cons (ps_asg (pe_ix ix_list (pv 2) (pe_op op_mod (pe_callTy call_int1 (by rfl) B.int_ (by decide +kernel) (pa_cons (pe_cx (ok_num T) hr pass0 (by rfl) (pa_cons (pv 0) (pa_cons (pv 1) pa_nil))) pa_nil)) (pe_callB call_len (by rfl) B.len_ PySem.boot_len (pa_cons (pv 2) pa_nil))) (fun _ _ => rfl))
      (pg_tup rfl (pgs_cons (pg_name (i := 3) nd rfl (Or.inl rfl)) (pgs_cons (pg_name (i := 4) nd rfl (Or.inl rfl)) (pgs_cons (pg_name (i := 5) nd rfl (Or.inl rfl)) (pgs_cons (pg_name (i := 6) nd rfl (Or.inl rfl)) (pgs_cons (pg_name (i := 7) nd rfl (Or.inl rfl)) pgs_nil)))))))
    (pss_cons (ps_asg (pe_tup (pa_cons (pe_cx (ok_funsL T) hr pass0 (by rfl) (pa_cons (pv 0) (pa_cons (pe_op op_add (pv 1) pe_int) (pa_cons (pv 3) (pa_cons (pv 6) pa_nil))))) (pa_cons (pe_lst pa_nil) pa_nil))) (pg_tup rfl (pgs_cons (pg_name (i := 8) nd rfl (Or.inl rfl)) (pgs_cons (pg_name (i := 9) nd rfl (Or.inr rfl)) pgs_nil))))
    (pss_cons (ps_set (i := 10) nd rfl (Or.inl rfl) (pe_listRg rfl (by rfl) B.list_ (prg_1 (by rfl) B.range_ (pe_callB call_len (by rfl) B.len_ PySem.boot_len (pa_cons (pv 8) pa_nil)))))
    (pss_cons (ps_for (passes_of rfl) rfl (pi_range1 (by rfl) B.range_ (pa_cons (pe_op op_add pe_int (pe_op op_mod (pe_callTy call_int1 (by rfl) B.int_ (by decide +kernel) (pa_cons (pe_cx (ok_num T) hr pass0 (by rfl) (pa_cons (pv 0) (pa_cons (pe_op op_add (pv 1) pe_int) pa_nil))) pa_nil)) (pv 7))) pa_nil)) (pg_name (i := 11) nd rfl (Or.inl rfl))
      (pss_cons (ps_set (i := 12) nd rfl (Or.inl rfl) (pe_op op_cat (pe_op op_rep
        (pe_lc (own := [("c", 17)]) (by rfl) nd (pi_range1 (by rfl) B.range_ (pa_cons (pv 5) pa_nil)) (blkOk_by (N := ["script", "at", "sizes", "base", "settings", "columns", "most", "many", "functions", "things", "every", "thing", "leaves", "spot", "mode", "tree", "found", "c", "t"]) (sc := defScope (top 65)) (by decide +kernel))
          (fun _ _ _ _ _ => pg_name (i := 17) nd rfl (Or.inl rfl)) (fun _ _ _ _ _ => pts_nil) (fun _ _ _ _ _ => pe_tup (pa_cons pe_str (pa_cons (pv 17) pa_nil)))) pe_int)
        (pe_lst (pa_cons (pe_tup (pa_cons pe_str pa_nil)) (pa_cons (pe_tup (pa_cons pe_str (pa_cons (pe_op op_sub (pv 3) pe_int) pa_nil))) pa_nil)))))
      (pss_cons (ps_set (i := 12) nd rfl (Or.inl rfl) (pe_op op_cat (pv 12) (pe_op op_rep
        (pe_lc (own := [("t", 18)]) (by rfl) nd (pi_range1 (by rfl) B.range_ (pa_cons (pv 11) pa_nil)) (blkOk_by (N := ["script", "at", "sizes", "base", "settings", "columns", "most", "many", "functions", "things", "every", "thing", "leaves", "spot", "mode", "tree", "found", "c", "t"]) (sc := defScope (top 65)) (by decide +kernel))
          (fun _ _ _ _ _ => pg_name (i := 18) nd rfl (Or.inl rfl)) (fun _ _ _ _ _ => pts_one (pt_cmpR op_eq (pe_ix (ix_tupK K rfl) (pe_ix (ix_listK K rfl) (pv 9) (pv 18) (fun _ _ => rfl)) pe_int (fun _ _ => rfl)) pe_str (nomark _))) (fun _ _ _ _ _ => pe_tup (pa_cons pe_str (pa_cons (pv 18) pa_nil)))) pe_int)))
      (pss_cons (ps_set (i := 13) nd rfl (Or.inl rfl) (pe_op op_add (pe_op op_add (pv 1) pe_int) (pe_op op_mul pe_int (pv 11))))
      (pss_cons (ps_set (i := 14) nd rfl (Or.inl rfl) (pe_ix ix_tup (pe_tup (pa_cons pe_str (pa_cons pe_str (pa_cons pe_str (pa_cons pe_str pa_nil))))) (pe_op op_mod (pe_callTy call_int1 (by rfl) B.int_ (by decide +kernel) (pa_cons (pe_cx (ok_num T) hr pass0 (by rfl) (pa_cons (pv 0) (pa_cons (pv 13) pa_nil))) pa_nil)) pe_int) (fun _ _ => rfl)))
      (pss_cons (ps_set (i := 15) nd rfl (Or.inl rfl) (pe_cx (ok_tree T 5) hr pass0 (by rfl) (pa_cons (pv 0) (pa_cons (pe_op op_add (pv 13) pe_int) (pa_cons (pe_op op_add pe_int (pe_op op_mod (pe_callTy call_int1 (by rfl) B.int_ (by decide +kernel) (pa_cons (pe_cx (ok_num T) hr pass0 (by rfl) (pa_cons (pv 0) (pa_cons (pe_op op_add (pv 13) pe_int) pa_nil))) pa_nil)) pe_int)) (pa_cons (pv 12) (pa_cons (pv 10) pa_nil)))))))
      (pss_one (ps_expr (pe_bm PySem.F.plainAttrs_list PySem.F.slot_list_append PySem.F.type_list_append mt_append (pv 9) (pa_cons (pe_tup (pa_cons (pv 14) (pa_cons (pv 15) pa_nil))) pa_nil))))))))))
    (pss_cons (ps_set (i := 16) nd rfl (Or.inl rfl) (pe_disp (pps_cons pe_str (pv 3) (pps_cons pe_str (pv 4) (pps_cons pe_str (pv 8) pps_nil))) rfl rfl (by simp) (by decide)))
    (pss_cons (ps_asg (pe_tup (pa_cons (pv 5) (pa_cons (pe_callTy call_tuple_of (by rfl) B.tuple_ (by decide +kernel) (pa_cons (pv 9) pa_nil)) pa_nil))) (pg_tup rfl (pgs_cons (pg_sub (pv 16) pe_str (set_dict (hu1 hr.units))) (pgs_cons (pg_sub (pv 16) pe_str (set_dict (hu1 hr.units))) pgs_nil))))
    (pss_cons (ps_dput (hu1 hr.units) (pv 16) pe_str (pe_cx (ok_some T) hr pass0 (by rfl) (pa_cons (pv 0) (pa_cons (pe_op op_add (pv 1) pe_int) (pa_cons (pe_callB call_len (by rfl) B.len_ PySem.boot_len (pa_cons (pv 8) pa_nil)) (pa_cons pe_int pa_nil))))) (by rfl))
    (pss_cons (ps_dput (hu1 hr.units) (pv 16) pe_str (pe_cx (ok_some T) hr pass0 (by rfl) (pa_cons (pv 0) (pa_cons (pe_op op_add (pv 1) pe_int) (pa_cons (pv 4) (pa_cons pe_int pa_nil))))) (by rfl))
    (pss_cons (ps_dput (hu1 hr.units) (pv 16) pe_str (pe_cx (ok_some T) hr pass0 (by rfl) (pa_cons (pv 0) (pa_cons (pe_op op_add (pv 1) pe_int) (pa_cons (pv 4) (pa_cons pe_int pa_nil))))) (by rfl))
    (pss_one (ps_ret (pv 16))))))))))), ?_⟩
  obtain ⟨sa, ns, rfl, hsl⟩ := hs
  obtain ⟨j0, hj0, ej0⟩ : ∃ f : Nat → Nat, (∀ n, f n < xs.length) ∧ ∀ n : Nat, (n : Int) % (xs.length : Int) = (f n : Int) := by
    refine ⟨fun n => ((n : Int) % (xs.length : Int)).toNat, fun n => ?_, fun n => ?_⟩
    · obtain ⟨j, h1, h2⟩ := mod_at (x := (n : Int)) hx0
      show ((n : Int) % (xs.length : Int)).toNat < _
      omega
    · obtain ⟨j, h1, h2⟩ := mod_at (x := (n : Int)) hx0
      show _ = ((((n : Int) % (xs.length : Int)).toNat : Nat) : Int)
      omega
  refine ⟨_, rfl, _, rfl, _, rfl, sa, ns, i, rfl, hsl, by omega, fun n1 H1 s1 hn1 => ?_⟩
  obtain ⟨tz, b, st, c, mo, mn, ez, htz, hb, hst, hc, hmo, hmn⟩ := hxz _ (List.getElem_mem (hj0 n1))
  refine .inl ⟨_, rfl, _, rfl, _, _, rfl, .inl ⟨_, s1.seq hxs, rfl⟩, _, _, rfl, rfl, (show (0 : Int) < _ by omega), szl, xs, _, .ref tz, rfl, rfl, s1.seq hxs, (by rw [ej0 n1]; exact atI_nat (by rw [List.getElem?_eq_getElem (hj0 n1), ez])), tz, _, rfl, .inl (.inl (s1 _ _ htz)), rfl, _, _, rfl, _, _, rfl, _, _, rfl, _, _, rfl, _, _, rfl, rfl, ?_⟩
  refine ⟨_, rfl, _, rfl, _, _, rfl, rfl, _, rfl, _, rfl, .ref sa, i + 10, b, mo, rfl, ⟨sa, ns, rfl, s1.seq hsl⟩, by omega, by omega, by omega, by omega, by omega, fun n fv H2 s2 hn1 hn3 hfv => ⟨Nat.zero_le _, fun tl htl => ⟨by show 2 ≤ sizeLine; decide, fun tp htp => ⟨tp, _, rfl, .inl (.inl upd_same), rfl, _, _, rfl, _, _, rfl, rfl, ?_⟩⟩⟩⟩
  have w1 := same_upd (o := .lst []) htl
  have w2 := same_upd (o := .tup [fv, .ref tl]) htp
  have htlv := w2 _ _ (upd_same (H := H2) (a := tl) (o := .lst []))
  have s3 := s1.trans (s2.trans (w1.trans w2))
  have hfv := hfv.tups (Same.tups (w1.trans w2))
  have htlH : H tl = none := Same.free (s1.trans s2) htl
  generalize upd (upd H2 tl (.lst [])) tp (.tup [fv, .ref tl]) = H3 at htlv s3 hfv
  obtain ⟨fa, fvs, rfl, hfa, hfn, hfb⟩ := hfv
  refine ⟨_, rfl, _, _, rfl, .inr ⟨_, .inl (.inl hfa), rfl⟩, _, rfl, RgOk.of_le (by omega) (by omega) (by omega) (by omega), fun ev hev => ?_⟩
  have w3 := same_upd (o := .lst (rgV 0 (fvs.length : Int))) hev
  have hne : tl ≠ ev := ne_of_none htlv hev
  have hevv := upd_same (H := H3) (a := ev) (o := .lst (rgV 0 (fvs.length : Int)))
  have s4 := s3.trans w3
  have htlv := w3 _ _ htlv
  have hfa := w3 _ _ hfa
  have hfb : ∀ x ∈ fvs, BodV (upd H3 ev (.lst (rgV 0 (fvs.length : Int)))) x := fun x hx => (hfb x hx).tups (Same.tups w3)
  generalize upd H3 ev (.lst (rgV 0 (fvs.length : Int))) = H4 at hevv s4 htlv hfa hfb
  rw [nV_rgV] at hevv
  refine ⟨_, rfl, _, rfl, _, _, rfl, rfl, sa, ns, i + 1, rfl, s4.seq hsl, by omega, fun n2 H5 s5 hn2 => ?_⟩
  obtain ⟨cnt, ecnt, hcnt1, hcnt3⟩ : ∃ cnt : Nat, 1 + (n2 : Int) % (mn : Int) = (cnt : Int) ∧ 1 ≤ cnt ∧ cnt ≤ 3 := by
    have h1 := Int.emod_nonneg (n2 : Int) (show (mn : Int) ≠ 0 by omega)
    have h2 := Int.emod_lt_of_pos (n2 : Int) (show (0 : Int) < mn by omega)
    exact ⟨(1 + (n2 : Int) % (mn : Int)).toNat, by omega, by omega, by omega⟩
  refine .inl ⟨_, rfl, _, rfl, _, _, rfl, rfl, (by show (0 : Int) < (mn : Int); omega), _, _, rfl, rfl, (cnt : Int), (by rw [← ecnt]), by omega, by omega, for_range (n := cnt) (fun k σ H' => ∃ ths x11 x12 x13 x14 x15 x17 x18, σ = [some (.ref sa), some (.int (i : Int)), some (.ref szl), some (.int (b : Int)), some (.int (st : Int)), some (.int (c : Int)), some (.int (mo : Int)), some (.int (mn : Int)), some (.ref fa), some (.ref tl), some (.ref ev), x11, x12, x13, x14, x15, none, x17, x18] ∧ Same H H' ∧ Tups H5 H' ∧ H' ev = some (.lst (((List.range fvs.length).map fun (k : Nat) => (k : Int)).map V.int)) ∧ H' tl = some (.lst ths) ∧ ths.length = k ∧ ∀ x ∈ ths, ThV H' x)
    ⟨[], _, _, _, _, _, _, _, rfl, s4.trans s5, Tups.refl _, s5 _ _ hevv, s5 _ _ htlv, rfl, fun x hx => by cases hx⟩ ?_ ?_⟩
  · rintro k σ H6 hk ⟨ths, x11, x12, x13, x14, x15, x17, x18, rfl, s6, tp6, hev6, htl6, hthl, hth⟩
    refine ⟨_, rfl, (c : Int), rfl, by omega, by omega, fun D1 hD1 => lc_range (n := c) (fun j H' => Same H6 H' ∧ ∃ xs, H' D1 = some (.lst xs) ∧ xs.length = j ∧ ∀ x ∈ xs, GoodTr H' 1 x) ⟨same_upd hD1, [], upd_same, rfl, fun x hx => by cases hx⟩ ?_ ?_⟩
    · rintro j H7 hj ⟨s7, xs1, hx1, hx2, hx3⟩
      refine ⟨rfl, ?_⟩
      refine tYesIf ?_
      refine ⟨.int (j : Int), zadd j, by show 2 ≤ sizeLine; decide, fun t ht => ?_⟩
      have v1 := same_upd (o := .tup [.str "column", .int (j : Int)]) ht
      have hxt := v1 _ _ hx1
      refine ⟨xs1, hxt, (by rw [sizeLine_eq]; omega), same_new (s7.trans v1) hD1, xs1 ++ [.ref t], upd_same, by rw [List.length_append, List.length_singleton, hx2], fun x hx => ?_⟩
      rcases List.mem_append.mp hx with hx | hx
      · exact ((hx3 x hx).same v1).tups (tups_lst hxt)
      · rw [List.mem_singleton.mp hx]
        exact (tree_col (upd_same (H := H7) (a := t) (o := .tup [.str "column", .int (j : Int)])) (by omega)).tups (tups_lst hxt)
    rintro H7 ⟨s7, xs1, hx1, hx2, hx3⟩
    refine ⟨D1, 2, xs1, rfl, rfl, hx1, by decide, by decide, (by rw [sizeLine_eq]; show xs1.length * 2 ≤ _; omega), fun p1 hp1 => ?_⟩
    rw [rep2]
    refine ⟨by show 1 ≤ sizeLine; decide, fun t1 ht1 => ⟨_, rfl, _, _, rfl, rfl, by show 2 ≤ sizeLine; decide, fun t2 ht2 => ⟨by show 2 ≤ sizeLine; decide, fun l2 hl2 => ?_⟩⟩⟩
    have v1 := same_upd (o := .lst (xs1 ++ xs1)) hp1
    have v2 := same_upd (o := .tup [.str "setting"]) ht1
    have v3 := same_upd (o := .tup [.str "number", .int ((b : Int) - 1)]) ht2
    have v4 := same_upd (o := .lst [.ref t1, .ref t2]) hl2
    have v5 := v1.trans (v2.trans (v3.trans v4))
    have y1 := v4 _ _ (v3 _ _ (v2 _ _ (upd_same (H := H7) (a := p1) (o := .lst (xs1 ++ xs1)))))
    have y2 := v4 _ _ (v3 _ _ (upd_same (H := upd H7 p1 (.lst (xs1 ++ xs1))) (a := t1) (o := .tup [.str "setting"])))
    have y3 := v4 _ _ (upd_same (H := upd (upd H7 p1 (.lst (xs1 ++ xs1))) t1 (.tup [.str "setting"])) (a := t2) (o := .tup [.str "number", .int ((b : Int) - 1)]))
    have y4 := upd_same (H := upd (upd (upd H7 p1 (.lst (xs1 ++ xs1))) t1 (.tup [.str "setting"])) t2 (.tup [.str "number", .int ((b : Int) - 1)])) (a := l2) (o := .lst [.ref t1, .ref t2])
    have s8 := s7.trans v5
    have hx3 : ∀ x ∈ xs1, GoodTr _ 1 x := fun x hx => (hx3 x hx).same v5
    generalize upd (upd (upd (upd H7 p1 (.lst (xs1 ++ xs1))) t1 (.tup [.str "setting"])) t2 (.tup [.str "number", .int ((b : Int) - 1)])) l2 (.lst [.ref t1, .ref t2]) = H8 at y1 y2 y3 y4 s8 hx3
    refine ⟨p1, l2, _, _, rfl, rfl, y1, y4, (by rw [sizeLine_eq, List.length_append]; show _ + 2 ≤ _; omega), fun lv hlv => ?_⟩
    have v6 := same_upd (o := .lst (xs1 ++ xs1 ++ [.ref t1, .ref t2])) hlv
    have hlvv := upd_same (H := H8) (a := lv) (o := .lst (xs1 ++ xs1 ++ [.ref t1, .ref t2]))
    have s9 := s8.trans v6
    have hys : ∀ x ∈ xs1 ++ xs1 ++ [.ref t1, .ref t2], GoodTr (upd H8 lv (.lst (xs1 ++ xs1 ++ [.ref t1, .ref t2]))) 1 x := fun x hx => by
      rcases List.mem_append.mp hx with hx | hx
      · rcases List.mem_append.mp hx with hx | hx
        · exact (hx3 x hx).same v6
        · exact (hx3 x hx).same v6
      · simp only [List.mem_cons, List.not_mem_nil, or_false] at hx
        rcases hx with rfl | rfl
        · exact (tree_tup2 y2).same v6
        · exact (tree_num y3 (by omega)).same v6
    have hyl : (xs1 ++ xs1 ++ [V.ref t1, .ref t2]).length = 2 * c + 2 := by simp only [List.length_append, List.length_cons, List.length_nil]; omega
    generalize upd H8 lv (.lst (xs1 ++ xs1 ++ [.ref t1, .ref t2])) = H9 at hlvv s9 hys
    generalize xs1 ++ xs1 ++ [V.ref t1, .ref t2] = ys at hlvv hys hyl
    refine ⟨_, rfl, .int (k : Int), zadd k, (k : Int), rfl, by omega, by omega, fun D2 hD2 => lc_range (n := k) (fun j H' => Same H9 H' ∧ ∃ xs, H' D2 = some (.lst xs) ∧ xs.length ≤ j ∧ ∀ x ∈ xs, GoodTr H' 1 x) ⟨same_upd hD2, [], upd_same, Nat.le_refl _, fun x hx => by cases hx⟩ ?_ ?_⟩
    · rintro j H10 hj ⟨s10, xs2, hx1, hx2, hx3⟩
      have hjl : j < ths.length := by omega
      obtain ⟨ta, mo', u, eta, hta, hu⟩ := hth _ (List.getElem_mem hjl)
      have tp10 : Tups H6 H10 := (Same.tups s9).trans (Same.tups s10)
      refine ⟨rfl, _, rfl, .int (j : Int), zadd j, tl, ths, _, .ref ta, rfl, rfl, SqL.of (s10 _ _ (s9 _ _ htl6)), atI_nat (by rw [List.getElem?_eq_getElem hjl, eta]), ta, _, 0, .str mo'.str, rfl, rfl, .inl (.inl (tp10 _ _ hta)), atI_nat (j := 0) rfl, rfl, _, rfl, ?_⟩
      refine iteP ⟨.int (j : Int), zadd j, by show 2 ≤ sizeLine; decide, fun t ht => ?_⟩ ⟨s10, xs2, hx1, by omega, hx3⟩
      have v1 := same_upd (o := .tup [.str "kept", .int (j : Int)]) ht
      have hxt := v1 _ _ hx1
      refine ⟨xs2, hxt, (by rw [sizeLine_eq]; omega), same_new (s10.trans v1) hD2, xs2 ++ [.ref t], upd_same, by rw [List.length_append, List.length_singleton]; omega, fun x hx => ?_⟩
      rcases List.mem_append.mp hx with hx | hx
      · exact ((hx3 x hx).same v1).tups (tups_lst hxt)
      · rw [List.mem_singleton.mp hx]
        exact (tree_kept (upd_same (H := H10) (a := t) (o := .tup [.str "kept", .int (j : Int)])) (by omega)).tups (tups_lst hxt)
    rintro H10 ⟨s10, xs2, hx1, hx2, hx3⟩
    refine ⟨D2, 2, xs2, rfl, rfl, hx1, by decide, by decide, (by rw [sizeLine_eq]; show xs2.length * 2 ≤ _; omega), fun p2 hp2 => ?_⟩
    rw [rep2]
    have v7 := same_upd (o := .lst (xs2 ++ xs2)) hp2
    have hlv10 := v7 _ _ (s10 _ _ hlvv)
    refine ⟨lv, p2, _, _, rfl, rfl, hlv10, upd_same, (by rw [sizeLine_eq, List.length_append]; omega), fun lw hlw => ?_⟩
    have v8 := same_upd (o := .lst (ys ++ (xs2 ++ xs2))) hlw
    have hlwv := upd_same (H := upd H10 p2 (.lst (xs2 ++ xs2))) (a := lw) (o := .lst (ys ++ (xs2 ++ xs2)))
    have s11 := s9.trans (s10.trans (v7.trans v8))
    have hzs : ∀ x ∈ ys ++ (xs2 ++ xs2), GoodTr (upd (upd H10 p2 (.lst (xs2 ++ xs2))) lw (.lst (ys ++ (xs2 ++ xs2)))) 1 x := fun x hx => by
      rcases List.mem_append.mp hx with hx | hx
      · exact (hys x hx).same (s10.trans (v7.trans v8))
      · rcases List.mem_append.mp hx with hx | hx
        · exact (hx3 x hx).same (v7.trans v8)
        · exact (hx3 x hx).same (v7.trans v8)
    have hzl : 0 < (ys ++ (xs2 ++ xs2)).length := by rw [List.length_append]; omega
    generalize upd (upd H10 p2 (.lst (xs2 ++ xs2))) lw (.lst (ys ++ (xs2 ++ xs2))) = H11 at hlwv s11 hzs
    generalize ys ++ (xs2 ++ xs2) = zs at hlwv hzs hzl
    have s12 := s6.trans s11
    refine ⟨_, rfl, _, _, rfl, rfl, .int (k : Int), zadd k, _, _, rfl, rfl, .inl ⟨by decide, by decide⟩, _, _, rfl, rfl, ?_⟩
    refine ⟨by show 4 ≤ sizeLine; decide, fun t4 ht4 => ?_⟩
    have v9 := same_upd (o := .tup [.str "kept", .str "again", .str "kept", .str "check"]) ht4
    have z4 := upd_same (H := H11) (a := t4) (o := .tup [.str "kept", .str "again", .str "kept", .str "check"])
    generalize upd H11 t4 (.tup [.str "kept", .str "again", .str "kept", .str "check"]) = H12 at v9 z4
    have s13 := s12.trans v9
    refine ⟨_, rfl, .int ((i + 220 + 40 * k : Nat) : Int), rfl, sa, ns, i + 220 + 40 * k, rfl, s13.seq hsl, by omega, fun n3 H13 s14 hn3 => ?_⟩
    obtain ⟨jm, hjm, ejm⟩ := mod_at (x := (n3 : Int)) (show 0 < 4 by decide)
    obtain ⟨md, hmd⟩ : ∃ md : Mode, [V.str "kept", .str "again", .str "kept", .str "check"][jm]? = some (.str md.str) := by
      match jm, hjm with
      | 0, _ => exact ⟨.kept, rfl⟩
      | 1, _ => exact ⟨.again, rfl⟩
      | 2, _ => exact ⟨.kept, rfl⟩
      | 3, _ => exact ⟨.check, rfl⟩
    refine .inl ⟨_, rfl, _, _, rfl, rfl, (show (0 : Int) < _ by decide), t4, _, _, .str md.str, rfl, rfl, .inl (.inl (s14 _ _ z4)), (by rw [show (4 : Int) = ((4 : Nat) : Int) from rfl, ejm]; exact atI_nat hmd), ?_⟩
    have s15 := s13.trans s14
    refine ⟨_, rfl, .int ((i + 220 + 40 * k : Nat) : Int), rfl, _, _, rfl, rfl, _, rfl, .int ((i + 220 + 40 * k : Nat) : Int), rfl, _, _, rfl, rfl, sa, ns, i + 220 + 40 * k + 2, rfl, s15.seq hsl, by omega, fun n4 H14 s16 hn4 => ?_⟩
    obtain ⟨mm, emm, hmm1, hmm6⟩ : ∃ mm : Nat, 2 + (n4 : Int) % 5 = (mm : Int) ∧ 1 ≤ mm ∧ mm ≤ 6 := ⟨(2 + (n4 : Int) % 5).toNat, by omega, by omega, by omega⟩
    have s17 := s15.trans s16
    have s18 := s11.trans (v9.trans (s14.trans s16))
    refine .inl ⟨_, rfl, _, _, rfl, rfl, (show (0 : Int) < _ by decide), _, _, rfl, rfl, _, rfl, _, rfl, .ref sa, .ref lw, .ref ev, i + 220 + 40 * k + 1, mm, (by rw [← emm]; rfl), ⟨sa, ns, rfl, s17.seq hsl⟩, by omega, by decide, hmm1, hmm6, ⟨lw, zs, rfl, SqL.of ((v9.trans (s14.trans s16)) _ _ hlwv), hzl, fun x hx => (hzs x hx).same (v9.trans (s14.trans s16))⟩, ⟨ev, _, rfl, SqL.of (s18 _ _ hev6), fun x hx => ?_⟩, fun v H15 s19 g => ?_⟩
    · obtain ⟨y, hy, rfl⟩ := List.mem_map.mp hx
      have := List.mem_range.mp hy
      omega
    have s20 := s18.trans s19
    have htl15 := s20 _ _ htl6
    refine ⟨_, rfl, .inl ⟨rfl, _, SqL.of htl15⟩, _, rfl, _, rfl, by show 2 ≤ sizeLine; decide, fun tt htt => ?_⟩
    have v10 := same_upd (o := .tup [.str md.str, v]) htt
    have htl16 := v10 _ _ htl15
    have s21 := s20.trans v10
    refine ⟨tl, ths, _, rfl, rfl, htl16, (by rw [sizeLine_eq]; omega), ths ++ [.ref tt], _, _, _, _, _, _, _, rfl, ?_, tp6.trans ((Same.tups s21).trans (tups_lst htl16)), ?_, upd_same, (by rw [List.length_append, List.length_singleton, hthl]), fun x hx => ?_⟩
    · exact fun b o e => by
        rw [upd_ne (ne_of_none e htlH)]
        exact (s6.trans s21) _ _ e
    · rw [upd_ne (Ne.symm hne)]; exact s21 _ _ hev6
    · rcases List.mem_append.mp hx with hx | hx
      · exact (hth x hx).tups ((Same.tups s21).trans (tups_lst htl16))
      · rw [List.mem_singleton.mp hx]
        exact ⟨tt, md, v, rfl, tups_lst htl16 _ _ upd_same, ((g.mono hmm6).same v10).tups (tups_lst htl16)⟩
  · rintro σ H6 ⟨ths, x11, x12, x13, x14, x15, x17, x18, rfl, s6, tp6, hev6, htl6, hthl, hth⟩
    have hfv6 : FnV H6 fvs.length (.ref fa) := ⟨fa, fvs, rfl, tp6 _ _ (s5 _ _ hfa), rfl, fun x hx => (hfb x hx).tups ((Same.tups s5).trans tp6)⟩
    refine fun d hd => ⟨_, rfl, _, rfl, _, rfl, upd_same, [(.inr "base", .int (b : Int)), (.inr "settings", .int (st : Int)), (.inr "functions", .ref fa)], rfl, (by show 3 ≤ 15; decide), ?_⟩
    rw [kd3]
    have hdH : H d = none := Same.free s6 hd
    have q1 : Same H6 (upd (upd H6 d (.dK [])) d (.dK [(.inr "base", .int (b : Int)), (.inr "settings", .int (st : Int)), (.inr "functions", .ref fa)])) := fun a o e => by
      rw [upd_ne (ne_of_none e hd), upd_ne (ne_of_none e hd)]
      exact e
    have d1 := upd_same (H := upd H6 d (.dK [])) (a := d) (o := .dK [(.inr "base", .int (b : Int)), (.inr "settings", .int (st : Int)), (.inr "functions", .ref fa)])
    generalize upd (upd H6 d (.dK [])) d (.dK [(.inr "base", .int (b : Int)), (.inr "settings", .int (st : Int)), (.inr "functions", .ref fa)]) = H7 at q1 d1
    have s7 := s6.trans q1
    have hfv7 := hfv6.tups (Same.tups q1)
    have htl7 := q1 _ _ htl6
    refine ⟨_, rfl, _, rfl, tl, ths, rfl, .inl ⟨SqL.of htl7, fun t ht => ⟨by show 2 ≤ sizeLine; decide, fun tp htp => ?_⟩⟩⟩
    have w4 := same_upd (o := .tup ths) ht
    have w5 := same_upd (o := .tup [.int (c : Int), .ref t]) htp
    have w6 := w4.trans w5
    have htsv : TsV (upd (upd H7 t (.tup ths)) tp (.tup [.int (c : Int), .ref t])) (.ref t) := ⟨t, ths, rfl, w5 _ _ upd_same, by omega, fun x hx => (hth x hx).tups ((Same.tups q1).trans (Same.tups w6))⟩
    have htpv := upd_same (H := upd H7 t (.tup ths)) (a := tp) (o := .tup [.int (c : Int), .ref t])
    have s8 := s7.trans w6
    have d2 := w6 _ _ d1
    have hfv8 := hfv7.tups (Same.tups w6)
    generalize upd (upd H7 t (.tup ths)) tp (.tup [.int (c : Int), .ref t]) = H8 at htsv htpv s8 d2 hfv8
    have noD : ∀ {H' : Hp} {o : HO}, Same H H' → Same H (upd H' d o) := fun s a o e => by
      rw [upd_ne (ne_of_none e hdH)]
      exact s _ _ e
    refine ⟨tp, _, rfl, .inl (.inl htpv), rfl, _, _, rfl, _, rfl, d, _, rfl, DPut.k (k := .inr "columns") d2 (by show 3 < sizeLine; decide), ?_⟩
    rw [kd4]
    refine ⟨_, _, rfl, _, rfl, d, _, rfl, DPut.k (k := .inr "things") upd_same (by show 4 < sizeLine; decide), rfl, ?_⟩
    rw [kd5]
    have s9 := noD (o := .dK [(.inr "base", .int (b : Int)), (.inr "settings", .int (st : Int)), (.inr "functions", .ref fa), (.inr "columns", .int (c : Int)), (.inr "things", .ref t)]) (noD (o := .dK [(.inr "base", .int (b : Int)), (.inr "settings", .int (st : Int)), (.inr "functions", .ref fa), (.inr "columns", .int (c : Int))]) s8)
    have tp9 := (tups_dk (o := .dK [(.inr "base", .int (b : Int)), (.inr "settings", .int (st : Int)), (.inr "functions", .ref fa), (.inr "columns", .int (c : Int))]) d2).trans (tups_dk (o := .dK [(.inr "base", .int (b : Int)), (.inr "settings", .int (st : Int)), (.inr "functions", .ref fa), (.inr "columns", .int (c : Int)), (.inr "things", .ref t)]) upd_same)
    have d3 := upd_same (H := upd H8 d (.dK [(.inr "base", .int (b : Int)), (.inr "settings", .int (st : Int)), (.inr "functions", .ref fa), (.inr "columns", .int (c : Int))])) (a := d) (o := .dK [(.inr "base", .int (b : Int)), (.inr "settings", .int (st : Int)), (.inr "functions", .ref fa), (.inr "columns", .int (c : Int)), (.inr "things", .ref t)])
    generalize upd (upd H8 d (.dK [(.inr "base", .int (b : Int)), (.inr "settings", .int (st : Int)), (.inr "functions", .ref fa), (.inr "columns", .int (c : Int))])) d (.dK [(.inr "base", .int (b : Int)), (.inr "settings", .int (st : Int)), (.inr "functions", .ref fa), (.inr "columns", .int (c : Int)), (.inr "things", .ref t)]) = H9 at s9 tp9 d3
    have hfv9 := hfv8.tups tp9
    have hts9 := htsv.tups tp9
    obtain ⟨fa', fvs', efa, hfa9, hfn9, hfb9⟩ := id hfv9
    cases efa
    refine ⟨_, rfl, _, rfl, _, _, rfl, rfl, _, rfl, _, _, rfl, .inr ⟨_, .inl (.inl hfa9), rfl⟩, .ref sa, i + 2, fvs'.length, 0, rfl, ⟨sa, ns, rfl, s9.seq hsl⟩, by omega, by omega, by omega, fun xv H10 s10 hxv => ?_⟩
    have d4 := s10 _ _ d3
    refine ⟨_, rfl, d, _, rfl, DPut.k (k := .inr "free") d4 (by show 5 < sizeLine; decide), ?_⟩
    rw [kd6]
    have s11 := noD (o := .dK [(.inr "base", .int (b : Int)), (.inr "settings", .int (st : Int)), (.inr "functions", .ref fa), (.inr "columns", .int (c : Int)), (.inr "things", .ref t), (.inr "free", xv)]) (s9.trans s10)
    have tp11 := tups_dk (o := .dK [(.inr "base", .int (b : Int)), (.inr "settings", .int (st : Int)), (.inr "functions", .ref fa), (.inr "columns", .int (c : Int)), (.inr "things", .ref t), (.inr "free", xv)]) d4
    have d5 := upd_same (H := H10) (a := d) (o := .dK [(.inr "base", .int (b : Int)), (.inr "settings", .int (st : Int)), (.inr "functions", .ref fa), (.inr "columns", .int (c : Int)), (.inr "things", .ref t), (.inr "free", xv)])
    generalize upd H10 d (.dK [(.inr "base", .int (b : Int)), (.inr "settings", .int (st : Int)), (.inr "functions", .ref fa), (.inr "columns", .int (c : Int)), (.inr "things", .ref t), (.inr "free", xv)]) = H11 at s11 tp11 d5
    refine ⟨_, rfl, _, rfl, _, _, rfl, rfl, _, rfl, .ref sa, i + 350, st, 1, rfl, ⟨sa, ns, rfl, s11.seq hsl⟩, by omega, by omega, by omega, fun yv H12 s12 hyv => ?_⟩
    have d6 := s12 _ _ d5
    refine ⟨_, rfl, d, _, rfl, DPut.k (k := .inr "writers") d6 (by show 6 < sizeLine; decide), ?_⟩
    rw [kd7]
    have s13 := noD (o := .dK [(.inr "base", .int (b : Int)), (.inr "settings", .int (st : Int)), (.inr "functions", .ref fa), (.inr "columns", .int (c : Int)), (.inr "things", .ref t), (.inr "free", xv), (.inr "writers", yv)]) (s11.trans s12)
    have tp13 := tups_dk (o := .dK [(.inr "base", .int (b : Int)), (.inr "settings", .int (st : Int)), (.inr "functions", .ref fa), (.inr "columns", .int (c : Int)), (.inr "things", .ref t), (.inr "free", xv), (.inr "writers", yv)]) d6
    have d7 := upd_same (H := H12) (a := d) (o := .dK [(.inr "base", .int (b : Int)), (.inr "settings", .int (st : Int)), (.inr "functions", .ref fa), (.inr "columns", .int (c : Int)), (.inr "things", .ref t), (.inr "free", xv), (.inr "writers", yv)])
    generalize upd H12 d (.dK [(.inr "base", .int (b : Int)), (.inr "settings", .int (st : Int)), (.inr "functions", .ref fa), (.inr "columns", .int (c : Int)), (.inr "things", .ref t), (.inr "free", xv), (.inr "writers", yv)]) = H13 at s13 tp13 d7
    refine ⟨_, rfl, _, rfl, _, _, rfl, rfl, _, rfl, .ref sa, i + 360, st, 1, rfl, ⟨sa, ns, rfl, s13.seq hsl⟩, by omega, by omega, by omega, fun zv H14 s14 hzv => ?_⟩
    have d8 := s14 _ _ d7
    refine ⟨_, rfl, d, _, rfl, DPut.k (k := .inr "askers") d8 (by show 7 < sizeLine; decide), ?_⟩
    rw [kd8]
    have tp15 := tups_dk (o := .dK [(.inr "base", .int (b : Int)), (.inr "settings", .int (st : Int)), (.inr "functions", .ref fa), (.inr "columns", .int (c : Int)), (.inr "things", .ref t), (.inr "free", xv), (.inr "writers", yv), (.inr "askers", zv)]) d8
    have tpa := tp13.trans ((Same.tups s14).trans tp15)
    have tpb := tp11.trans ((Same.tups s12).trans tpa)
    have tpc := (Same.tups s10).trans tpb
    exact ⟨_, rfl, k _ _ (noD (s13.trans s14)) ⟨d, b, st, c, fvs.length, .ref fa, .ref t, xv, yv, zv, rfl, upd_same, by omega, by omega, by omega, by omega, hfv9.tups tpc, hts9.tups tpc, hxv.tups tpb, hyv.tups tpa, hzv.tups tp15⟩⟩
end
end Km
set_option Elab.async false
set_option linter.all false
set_option maxRecDepth 100000
set_option maxHeartbeats 4000000
/-! the law's texts -/
namespace Km
open PySem PySem.Spec PyProof.Rows L2
theorem txt_len (t : Tr) : (txt t).length + 2 ≤ 4 * t.size := by
  induction t with
  | call n a ih => simp only [txt, Tr.size, List.length_cons, List.length_append, List.length_nil]; omega
  | bin o a b i1 i2 => simp only [txt, Tr.size, List.length_cons, List.length_append, List.length_nil]; omega
  | whn t a b i1 i2 i3 => simp only [txt, Tr.size, List.length_cons, List.length_append, List.length_nil]; omega
  | _ => simp [txt, Tr.size]
theorem ifEq {a b : Str} {A B : Prop} (h : a = b) (x : A) : if decide (V.str a = V.str b) = true then A else B := by
  rw [h, decide_eq_true rfl]
  exact iteT x
theorem ifNe {a b : Str} {A B : Prop} (h : a ≠ b) (x : B) : if decide (V.str a = V.str b) = true then A else B := by
  rw [decide_eq_false (fun e => h (V.str.inj e))]
  exact iteF x
theorem log_dig {n : Nat} (h : n ≤ 9) : ((n : Int)).natAbs.log2 < 1920 := Nat.lt_of_le_of_lt (Nat.log2_le_self _) (by rw [Int.natAbs_natCast]; omega)
theorem str_dig {n : Nat} (h : n ≤ 9) : toString (n : Int) = SX.S [48 + n] := by
  match n, h with
  | 0, _ => decide +kernel
  | 1, _ => decide +kernel
  | 2, _ => decide +kernel
  | 3, _ => decide +kernel
  | 4, _ => decide +kernel
  | 5, _ => decide +kernel
  | 6, _ => decide +kernel
  | 7, _ => decide +kernel
  | 8, _ => decide +kernel
  | 9, _ => decide +kernel
section
variable {P : Program} {w : World} {K : PySem.W.Frag} {mg : Str → Option Value} {base : Heap}
theorem scTxt : FnScope ["tree", "word", "parts", "part"] ["tree"] (defScope (top 66)) := ⟨rfl, rfl, rfl, by decide +kernel, rfl, by decide +kernel, by decide +kernel⟩
def spTxt (n : Nat) : Sp := fun vs H Q _ => ∃ (v : V) (t : Tr), vs = [v] ∧ TreeAt H t v ∧ t.wf = true ∧ t.size ≤ n ∧ n ≤ 20 ∧ ∀ H', Same H H' → Q (.str (SX.S (txt t))) H'
theorem ok_txt0 (T : Lw P K mg w) : CalX CX0 P w K mg base 1 "_law_text" (spTxt 0) := by
  refine cal_of T.dText scTxt (fun _ _ _ _ _ _ us hl => match us, hl with | [_], _ => rfl) (fun vs H Q E ⟨v, t, e, _⟩ => by rw [e]; rfl) ?_
  rintro f cdv A outer s H vs Q E hr ⟨v, t, rfl, ht, hw, hn, hn20, k⟩
  have := t.size_pos
  exact ⟨_, pss_never, by omega⟩
theorem ok_txtS (T : Lw P K mg w) {n : Nat} (ih : CalX CX0 P w K mg base (n + 1) "_law_text" (spTxt n)) : CalX CX0 P w K mg base (n + 2) "_law_text" (spTxt (n + 1)) := by
  refine cal_of T.dText scTxt (fun _ _ _ _ _ _ us hl => match us, hl with | [_], _ => rfl) (fun vs H Q E ⟨v, t, e, _⟩ => by rw [e]; rfl) ?_
  rintro f cdv A outer s H vs Q E hr ⟨v, t, rfl, ht, hw, hn, hn20, k⟩
  have nd := scTxt.nd
  have B := T.t.r.f.B
  have hu1 : ∀ {n : Nat}, n + 64 < cLine → n + 1 < cLine := fun h => by omega
  refine ⟨_, pss_cons (ps_set (i := 1) nd rfl (Or.inl rfl) (pe_ix ix_tup (pv 0) pe_int (fun _ _ => rfl)))
    (pss_cons (ps_if (pt_cmpR op_eq (pv 1) pe_str (nomark _)) (pss_one (ps_ret (pe_callTy call_str_int (by rfl) B.str_ (by decide +kernel) (pa_cons (pe_ix ix_tup (pv 0) pe_int (fun _ _ => rfl)) pa_nil)))) pss_nil)
    (pss_cons (ps_if (PW.pt (pw_or (pt_cmpR op_eq (pv 1) pe_str (nomark _)) (pw_or1 (pt_cmpR op_eq (pv 1) pe_str (nomark _))))) (pss_one (ps_ret (pe_ix ix_str (pv 1) pe_int (fun _ _ => rfl)))) pss_nil)
    (pss_cons (ps_if (PW.pt (pw_or (pt_cmpR op_eq (pv 1) pe_str (nomark _)) (pw_or1 (pt_cmpR op_eq (pv 1) pe_str (nomark _))))) (pss_one (ps_ret (pe_op op_add_str (pe_ix ix_str (pv 1) pe_int (fun _ _ => rfl)) (pe_callTy call_str_int (by rfl) B.str_ (by decide +kernel) (pa_cons (pe_ix ix_tup (pv 0) pe_int (fun _ _ => rfl)) pa_nil))))) pss_nil)
    (pss_cons (ps_if (pt_cmpR op_eq (pv 1) pe_str (nomark _)) (pss_one (ps_ret (pe_op op_add_str (pe_op op_add_str (pe_op op_add_str (pe_op op_add_str pe_str (pe_callTy call_str_int (by rfl) B.str_ (by decide +kernel) (pa_cons (pe_ix ix_tup (pv 0) pe_int (fun _ _ => rfl)) pa_nil))) pe_str)
        (pe_cx ih hr pass0 (by rfl) (pa_cons (pe_ix ix_tup (pv 0) pe_int (fun _ _ => rfl)) pa_nil) (Nat.le_refl _))) pe_str))) pss_nil)
    (pss_cons (ps_setLc (own := [("part", 3)]) (i := 2) (by rfl) nd rfl rfl (sw_true rfl rfl rfl (by decide +kernel)) (pi_tup (pe_slice sl_tup (pv 0) (po_some pe_int) po_none)) (blkOk_by (N := ["tree", "word", "parts", "part"]) (sc := defScope (top 66)) (by decide +kernel))
        (fun _ _ _ _ _ => pg_name (i := 3) nd rfl (Or.inl rfl)) (fun _ _ _ _ _ => pts_nil) (fun _ _ _ _ _ => pe_cx ih hr pass0 (by rfl) (pa_cons (pv 3) pa_nil) (Nat.le_refl _)))
    (pss_cons (ps_if (pt_cmpR op_eq (pv 1) pe_str (nomark _)) (pss_one (ps_ret (pe_op op_add_str (pe_op op_add_str (pe_op op_add_str (pe_op op_add_str (pe_op op_add_str (pe_op op_add_str pe_str (pe_ix ix_list (pv 2) pe_int (fun _ _ => rfl))) pe_str) (pe_ix ix_list (pv 2) pe_int (fun _ _ => rfl))) pe_str) (pe_ix ix_list (pv 2) pe_int (fun _ _ => rfl))) pe_str))) pss_nil)
    (pss_one (ps_ret (pe_op op_add_str (pe_op op_add_str pe_str (pe_join (pe_dget (hu1 hr.units) (pe_disp (pps_cons pe_str pe_str (pps_cons pe_str pe_str (pps_cons pe_str pe_str (pps_cons pe_str pe_str pps_nil)))) rfl rfl (by simp) (by decide)) (pv 1) (fun _ _ => rfl)) (pv 2))) pe_str))))))))), ?_⟩
  have one : 1 ≤ sizeLine := by show 1 ≤ sizeLine; decide
  have lsz : ∀ {m : Nat}, m ≤ 10000 → m ≤ sizeLine := fun h => by rw [sizeLine_eq]; omega
  cases t with
  | num m =>
    obtain ⟨a, rfl, ha⟩ := ht
    simp only [Tr.wf, decide_eq_true_eq] at hw
    refine ⟨_, rfl, a, _, 0, _, rfl, rfl, .inl (.inl ha), atI_nat (j := 0) rfl, ⟨_, rfl, rfl, _, rfl, ifEq rfl ⟨_, rfl, a, _, 1, _, rfl, rfl, .inl (.inl ha), atI_nat (j := 1) rfl, _, rfl, log_dig (by omega), ?_⟩⟩⟩
    rw [str_dig (by omega)]
    exact k H (Same.refl _)
  | given =>
    obtain ⟨a, rfl, ha⟩ := ht
    exact ⟨_, rfl, a, _, 0, _, rfl, rfl, .inl (.inl ha), atI_nat (j := 0) rfl, ⟨_, rfl, rfl, _, rfl, ifNe (by decide +kernel) ⟨_, rfl, rfl, _, rfl, ifEq rfl (iteT ⟨_, rfl, _, 0, 103, rfl, rfl, (by show 5 ≤ sizeLine; decide), atI_nat (j := 0) (by decide +kernel), k H (Same.refl _)⟩)⟩⟩⟩
  | setting =>
    obtain ⟨a, rfl, ha⟩ := ht
    exact ⟨_, rfl, a, _, 0, _, rfl, rfl, .inl (.inl ha), atI_nat (j := 0) rfl, ⟨_, rfl, rfl, _, rfl, ifNe (by decide +kernel) ⟨_, rfl, rfl, _, rfl, ifNe (by decide +kernel) ⟨_, rfl, rfl, _, rfl, ifEq rfl ⟨_, rfl, _, 0, 115, rfl, rfl, (by show 7 ≤ sizeLine; decide), atI_nat (j := 0) (by decide +kernel), k H (Same.refl _)⟩⟩⟩⟩⟩
  | col m =>
    obtain ⟨a, rfl, ha⟩ := ht
    simp only [Tr.wf, decide_eq_true_eq] at hw
    refine ⟨_, rfl, a, _, 0, _, rfl, rfl, .inl (.inl ha), atI_nat (j := 0) rfl, ⟨_, rfl, rfl, _, rfl, ifNe (by decide +kernel) ⟨_, rfl, rfl, _, rfl, ifNe (by decide +kernel) ⟨_, rfl, rfl, _, rfl, ifNe (by decide +kernel) ⟨_, rfl, rfl, _, rfl, ifEq rfl (iteT ⟨_, rfl, _, 0, 99, rfl, rfl, (by show 6 ≤ sizeLine; decide), atI_nat (j := 0) (by decide +kernel), _, rfl, a, _, 1, _, rfl, rfl, .inl (.inl ha), atI_nat (j := 1) rfl, _, rfl, log_dig (by omega), ?_⟩)⟩⟩⟩⟩⟩
    rw [str_dig (by omega)]
    exact ⟨_, _, rfl, rfl, lsz (by show 2 ≤ 10000; decide), k H (Same.refl _)⟩
  | kept m =>
    obtain ⟨a, rfl, ha⟩ := ht
    simp only [Tr.wf, decide_eq_true_eq] at hw
    refine ⟨_, rfl, a, _, 0, _, rfl, rfl, .inl (.inl ha), atI_nat (j := 0) rfl, ⟨_, rfl, rfl, _, rfl, ifNe (by decide +kernel) ⟨_, rfl, rfl, _, rfl, ifNe (by decide +kernel) ⟨_, rfl, rfl, _, rfl, ifNe (by decide +kernel) ⟨_, rfl, rfl, _, rfl, ifNe (by decide +kernel) ⟨_, rfl, rfl, _, rfl, ifEq rfl ⟨_, rfl, _, 0, 107, rfl, rfl, (by show 4 ≤ sizeLine; decide), atI_nat (j := 0) (by decide +kernel), _, rfl, a, _, 1, _, rfl, rfl, .inl (.inl ha), atI_nat (j := 1) rfl, _, rfl, log_dig (by omega), ?_⟩⟩⟩⟩⟩⟩⟩
    rw [str_dig (by omega)]
    exact ⟨_, _, rfl, rfl, lsz (by show 2 ≤ 10000; decide), k H (Same.refl _)⟩
  | call m t =>
    obtain ⟨a, x, rfl, ha, hx⟩ := ht
    simp only [Tr.wf, Bool.and_eq_true, decide_eq_true_eq] at hw
    simp only [Tr.size] at hn
    refine ⟨_, rfl, a, _, 0, _, rfl, rfl, .inl (.inl ha), atI_nat (j := 0) rfl, ⟨_, rfl, rfl, _, rfl, ifNe (by decide +kernel) ⟨_, rfl, rfl, _, rfl, ifNe (by decide +kernel) ⟨_, rfl, rfl, _, rfl, ifNe (by decide +kernel) ⟨_, rfl, rfl, _, rfl, ifNe (by decide +kernel) ⟨_, rfl, rfl, _, rfl, ifNe (by decide +kernel) ⟨_, rfl, rfl, _, rfl, ifEq rfl ⟨_, rfl, a, _, 1, _, rfl, rfl, .inl (.inl ha), atI_nat (j := 1) rfl, _, rfl, log_dig (by omega), ?_⟩⟩⟩⟩⟩⟩⟩⟩
    rw [str_dig (by omega)]
    have htl := txt_len t
    refine ⟨_, _, rfl, rfl, lsz (by show 2 ≤ 10000; decide), _, _, rfl, rfl, lsz (by show 3 ≤ 10000; decide), _, rfl, a, _, 2, x, rfl, rfl, .inl (.inl ha), atI_nat (j := 2) rfl, x, t, rfl, hx, hw.2, by omega, by omega, fun H1 s1 => ?_⟩
    have e3 : ("f" : Str) ++ SX.S [48 + m] ++ ("(" : Str) = SX.S [102, 48 + m, 40] := by
      rw [show ("f" : Str) = SX.S [102] from by decide +kernel, show ("(" : Str) = SX.S [40] from by decide +kernel, SX.S_cat, SX.S_cat]
      rfl
    rw [e3]
    refine ⟨_, _, rfl, rfl, lsz (by rw [SX.S_len, SX.S_len]; show 3 + _ ≤ _; omega), ?_⟩
    rw [SX.S_cat]
    refine ⟨_, _, rfl, rfl, lsz (by rw [SX.S_len, List.length_append]; show 3 + _ + 1 ≤ _; omega), ?_⟩
    rw [show (")" : Str) = SX.S [41] from by decide +kernel, SX.S_cat]
    exact k H1 s1
  | bin o t u =>
    obtain ⟨a, x, y, rfl, ha, hx, hy'⟩ := ht
    simp only [Tr.wf, Bool.and_eq_true] at hw
    simp only [Tr.size] at hn
    have htl := txt_len t
    have hul := txt_len u
    have nw : ∀ {z : Str}, z ∈ [("number" : Str), "given", "setting", "column", "kept", "call", "when"] → o.word ≠ z := by
      intro z hz
      simp only [List.mem_cons, List.not_mem_nil, or_false] at hz
      rcases hz with rfl | rfl | rfl | rfl | rfl | rfl | rfl <;> cases o <;> decide +kernel
    refine ⟨_, rfl, a, _, 0, _, rfl, rfl, .inl (.inl ha), atI_nat (j := 0) rfl, ⟨_, rfl, rfl, _, rfl, ifNe (nw (by simp)) ⟨_, rfl, rfl, _, rfl, ifNe (nw (by simp)) ⟨_, rfl, rfl, _, rfl, ifNe (nw (by simp)) ⟨_, rfl, rfl, _, rfl, ifNe (nw (by simp)) ⟨_, rfl, rfl, _, rfl, ifNe (nw (by simp)) ⟨_, rfl, rfl, _, rfl, ifNe (nw (by simp)) ?_⟩⟩⟩⟩⟩⟩⟩
    refine ⟨_, rfl, _, rfl, a, _, rfl, .inl (.inl ha), not_whole _ _, fun p hp => ?_⟩
    rw [show cutV (.str o.word :: [x, y]) (some 1) none = [x, y] from by rw [show (1 : Int) = ((1 : Nat) : Int) from rfl, cutV_from _ _ (by simp), List.drop_one, List.tail_cons]]
    have s1 := same_upd (o := .tup [x, y]) hp
    have hpv := upd_same (H := H) (a := p) (o := .tup [x, y])
    generalize upd H p (.tup [x, y]) = H1 at s1 hpv
    refine ⟨p, rfl, ⟨_, .inl (.inl hpv)⟩, fun D hD => lc_tupS hD (.inl (.inl hpv)) [t, u] rfl (by rw [sizeLine_eq]; show _ < _; simp) (fun t => some (.str (SX.S (txt t)))) ?_ ?_⟩
    · intro i y t' H' R Rz hy ht' s2 _ k2
      refine ⟨rfl, ?_⟩
      refine tYesIf ?_
      obtain ⟨g1, g2, g3⟩ : TreeAt H t' y ∧ t'.wf = true ∧ t'.size ≤ n := by
        match i, hy, ht' with
        | 0, hy, ht' => cases hy; cases ht'; exact ⟨hx, hw.1, by omega⟩
        | 1, hy, ht' => cases hy; cases ht'; exact ⟨hy', hw.2, by omega⟩
        | i + 2, hy, _ => cases hy
      exact ⟨_, rfl, y, t', rfl, g1.tups (Same.tups (s1.trans s2)), g2, g3, by omega, fun H'' s3 => k2 _ _ rfl s3⟩
    intro H2 s2 hD2
    have hD2 : H2 D = some (.lst [.str (SX.S (txt t)), .str (SX.S (txt u))]) := hD2
    have s3 := s1.trans s2
    refine ⟨_, rfl, rfl, _, rfl, ifNe (nw (by simp)) ?_⟩
    refine fun d hd => ⟨upd_same, [(.inr "sum", .str "+"), (.inr "less", .str "-"), (.inr "times", .str "*"), (.inr "same", .str "=")], rfl, (by show 4 ≤ 15; decide), _, rfl, d, .str (SX.S [opC o]), rfl, .inl ⟨_, .inr o.word, .inl upd_same, rfl, by cases o <;> rfl⟩, ?_⟩
    have q1 : Same H2 (upd (upd H2 d (.dK [])) d (.dK (mergeK [] [(.inr "sum", .str "+"), (.inr "less", .str "-"), (.inr "times", .str "*"), (.inr "same", .str "=")]))) := fun b w e => by
      rw [upd_ne (ne_of_none e hd), upd_ne (ne_of_none e hd)]
      exact e
    generalize upd (upd H2 d (.dK [])) d (.dK (mergeK [] [(.inr "sum", .str "+"), (.inr "less", .str "-"), (.inr "times", .str "*"), (.inr "same", .str "=")])) = H3 at q1
    refine ⟨⟨_, rfl⟩, _, rfl, SX.S [opC o], D, [SX.S (txt t), SX.S (txt u)], rfl, rfl, .inl (SqL.of (q1 _ _ hD2)), ?_, ?_⟩
    · show (SX.S (txt t)).length + ((SX.S (txt u)).length + 0) + 2 * 1 ≤ 16777216
      rw [SX.S_len, SX.S_len]
      omega
    rw [show [SX.S (txt t), SX.S (txt u)] = [txt t, txt u].map SX.S from rfl, SX.join_S]
    have ej : TL.joinL [opC o] [txt t, txt u] = txt t ++ opC o :: txt u := rfl
    rw [ej]
    rw [show ("(" : Str) = SX.S [40] from by decide +kernel, show (")" : Str) = SX.S [41] from by decide +kernel]
    refine ⟨_, _, rfl, rfl, lsz (by rw [SX.S_len, SX.S_len]; simp only [List.length_append, List.length_cons, List.length_nil]; omega), ?_⟩
    rw [SX.S_cat]
    refine ⟨_, _, rfl, rfl, lsz (by rw [SX.S_len, SX.S_len]; simp only [List.length_append, List.length_cons, List.length_nil]; omega), ?_⟩
    rw [SX.S_cat]
    have := k H3 (s3.trans q1)
    simp only [txt] at this
    simpa using this
  | whn t u v =>
    obtain ⟨a, x, y, z, rfl, ha, hx, hy', hz'⟩ := ht
    simp only [Tr.wf, Bool.and_eq_true] at hw
    simp only [Tr.size] at hn
    have htl := txt_len t
    have hul := txt_len u
    have hvl := txt_len v
    refine ⟨_, rfl, a, _, 0, _, rfl, rfl, .inl (.inl ha), atI_nat (j := 0) rfl, ⟨_, rfl, rfl, _, rfl, ifNe (by decide +kernel) ⟨_, rfl, rfl, _, rfl, ifNe (by decide +kernel) ⟨_, rfl, rfl, _, rfl, ifNe (by decide +kernel) ⟨_, rfl, rfl, _, rfl, ifNe (by decide +kernel) ⟨_, rfl, rfl, _, rfl, ifNe (by decide +kernel) ⟨_, rfl, rfl, _, rfl, ifNe (by decide +kernel) ?_⟩⟩⟩⟩⟩⟩⟩
    refine ⟨_, rfl, _, rfl, a, _, rfl, .inl (.inl ha), not_whole _ _, fun p hp => ?_⟩
    rw [show cutV (.str "when" :: [x, y, z]) (some 1) none = [x, y, z] from by rw [show (1 : Int) = ((1 : Nat) : Int) from rfl, cutV_from _ _ (by simp), List.drop_one, List.tail_cons]]
    have s1 := same_upd (o := .tup [x, y, z]) hp
    have hpv := upd_same (H := H) (a := p) (o := .tup [x, y, z])
    generalize upd H p (.tup [x, y, z]) = H1 at s1 hpv
    refine ⟨p, rfl, ⟨_, .inl (.inl hpv)⟩, fun D hD => lc_tupS hD (.inl (.inl hpv)) [t, u, v] rfl (by rw [sizeLine_eq]; show _ < _; simp) (fun t => some (.str (SX.S (txt t)))) ?_ ?_⟩
    · intro i y t' H' R Rz hy ht' s2 _ k2
      refine ⟨rfl, ?_⟩
      refine tYesIf ?_
      obtain ⟨g1, g2, g3⟩ : TreeAt H t' y ∧ t'.wf = true ∧ t'.size ≤ n := by
        match i, hy, ht' with
        | 0, hy, ht' => cases hy; cases ht'; exact ⟨hx, hw.1, by omega⟩
        | 1, hy, ht' => cases hy; cases ht'; exact ⟨hy', hw.2.1, by omega⟩
        | 2, hy, ht' => cases hy; cases ht'; exact ⟨hz', hw.2.2, by omega⟩
        | i + 3, hy, _ => cases hy
      exact ⟨_, rfl, y, t', rfl, g1.tups (Same.tups (s1.trans s2)), g2, g3, by omega, fun H'' s3 => k2 _ _ rfl s3⟩
    intro H2 s2 hD2
    have hD2 : H2 D = some (.lst [.str (SX.S (txt t)), .str (SX.S (txt u)), .str (SX.S (txt v))]) := hD2
    have s3 := s1.trans s2
    refine ⟨_, rfl, rfl, _, rfl, ifEq rfl ?_⟩
    have hDL : SqL K H2 D [.str (SX.S (txt t)), .str (SX.S (txt u)), .str (SX.S (txt v))] := SqL.of hD2
    refine ⟨_, rfl, D, _, 0, _, rfl, rfl, hDL, atI_nat (j := 0) rfl, _, _, rfl, rfl, lsz (by rw [SX.S_len]; show 1 + (txt t).length ≤ _; omega), ?_⟩
    rw [show ("(" : Str) = SX.S [40] from by decide +kernel, show ("?" : Str) = SX.S [63] from by decide +kernel, show (":" : Str) = SX.S [58] from by decide +kernel, show (")" : Str) = SX.S [41] from by decide +kernel, SX.S_cat]
    refine ⟨_, _, rfl, rfl, lsz (by rw [SX.S_len, List.length_append]; show 1 + _ + 1 ≤ _; omega), ?_⟩
    rw [SX.S_cat]
    refine ⟨_, rfl, D, _, 1, _, rfl, rfl, hDL, atI_nat (j := 1) rfl, _, _, rfl, rfl, lsz (by rw [SX.S_len, SX.S_len, List.length_append, List.length_append]; show 1 + _ + 1 + _ ≤ _; omega), ?_⟩
    rw [SX.S_cat]
    refine ⟨_, _, rfl, rfl, lsz (by rw [SX.S_len, List.length_append, List.length_append, List.length_append]; show 1 + _ + 1 + _ + 1 ≤ _; omega), ?_⟩
    rw [SX.S_cat]
    refine ⟨_, rfl, D, _, 2, _, rfl, rfl, hDL, atI_nat (j := 2) rfl, _, _, rfl, rfl, lsz (by rw [SX.S_len, SX.S_len, List.length_append, List.length_append, List.length_append, List.length_append]; show 1 + _ + 1 + _ + 1 + _ ≤ _; omega), ?_⟩
    rw [SX.S_cat]
    refine ⟨_, _, rfl, rfl, lsz (by rw [SX.S_len, List.length_append, List.length_append, List.length_append, List.length_append, List.length_append]; show 1 + _ + 1 + _ + 1 + _ + 1 ≤ _; omega), ?_⟩
    rw [SX.S_cat]
    have := k H2 s3
    simp only [txt] at this
    simpa using this
theorem ok_txt (T : Lw P K mg w) : ∀ n, CalX CX0 P w K mg base (n + 1) "_law_text" (spTxt n)
  | 0 => ok_txt0 T
  | n + 1 => ok_txtS T (ok_txt T n)
end
end Km
set_option Elab.async false
set_option linter.all false
set_option maxRecDepth 100000
set_option maxHeartbeats 4000000
/-! the law's lines -/
namespace Km
open PySem PySem.Spec PyProof.Rows L2
def rStrW : List V → Hp → VK → Prop := fun xs H Q => ∃ w : List Nat, (xs = [.str (SX.S w)] ∨ ∃ n : Nat, n ≤ 9 ∧ xs = [.int (n : Int)] ∧ w = [48 + n]) ∧ Q (.str (SX.S w)) H
theorem call_strW {X : Cx} : CallR X (.type "str") rStrW := by
  intro pins s σ H xs us Q I r h
  obtain ⟨w, h, q⟩ := h
  rcases h with rfl | ⟨n, hn, rfl, rfl⟩
  · exact SkE.call_str_str pins s σ H _ us Q I r ⟨_, rfl, q⟩
  · exact call_str_int pins s σ H _ us Q I r ⟨_, rfl, log_dig hn, by rw [str_dig hn]; exact q⟩
/-- a word of a line stands as v -/
def WdV (w : List Nat) (v : V) : Prop := v = .str (SX.S w) ∨ ∃ n : Nat, n ≤ 9 ∧ v = .int (n : Int) ∧ w = [48 + n]
section
variable {P : Program} {w : World} {K : PySem.W.Frag} {mg : Str → Option Value} {base : Heap}
theorem scLine : FnScope ["words", "word"] ["words"] (defScope (top 67)) := ⟨rfl, rfl, rfl, by decide +kernel, rfl, by decide +kernel, by decide +kernel⟩
def lineT (ws : List (List Nat)) : List Nat := TL.joinL [32] ws ++ [10]
def spLine (K : PySem.W.Frag) : Sp := fun vs H Q _ => ∃ (l : Addr) (ws : List (List Nat)) (xs : List V), vs = [.ref l] ∧ SqL K H l xs ∧ Paired WdV ws xs ∧ ws.length ≤ 10 ∧ (∀ x ∈ ws, x.length ≤ 100) ∧ ∀ H', Same H H' → Q (.str (SX.S (lineT ws))) H'
theorem joinL_len {m : Nat} : ∀ {ws : List (List Nat)}, (∀ x ∈ ws, x.length ≤ m) → (TL.joinL [32] ws).length ≤ ws.length * (m + 1)
  | [], _ => Nat.zero_le _
  | [p], h => by
    have := h p (List.mem_cons_self ..)
    show p.length ≤ 1 * (m + 1)
    omega
  | p :: q :: r, h => by
    have h1 := h p (List.mem_cons_self ..)
    have h2 := joinL_len (m := m) (ws := q :: r) fun x hx => h x (List.mem_cons_of_mem _ hx)
    show (p ++ ([32] ++ TL.joinL [32] (q :: r))).length ≤ _
    simp only [List.length_append, List.length_cons, List.length_nil] at h2 ⊢
    rw [Nat.add_mul]
    omega
theorem ok_line (T : Lw P K mg w) : CalX CX0 P w K mg base 1 "_law_line" (spLine K) := by
  refine cal_of T.dLine scLine (fun _ _ _ _ _ _ us hl => match us, hl with | [_], _ => rfl) (fun vs H Q E ⟨l, ws, xs, e, _⟩ => by rw [e]; rfl) ?_
  rintro f cdv A outer s H vs Q E hr ⟨l, ws, xs, rfl, hl, hp, hw10, hwl, k⟩
  have nd := scLine.nd
  have B := T.t.r.f.B
  refine ⟨_, pss_one (ps_ret (pe_op op_add_str (pe_join pe_str
      (pe_lc (own := [("word", 1)]) (by rfl) nd (pi_list (pv 0)) (blkOk_by (N := ["words", "word"]) (sc := defScope (top 67)) (by decide +kernel))
        (fun _ _ _ _ _ => pg_name (i := 1) nd rfl (Or.inl rfl)) (fun _ _ _ _ _ => pts_nil) (fun _ _ _ _ _ => pe_callTy call_strW (by rfl) B.str_ (by decide +kernel) (pa_cons (pv 1) pa_nil)))) pe_str)), ?_⟩
  have hpl := Paired.len hp
  refine ⟨⟨_, rfl⟩, _, rfl, l, rfl, ⟨_, hl⟩, fun D hD => lc_listS hD hl ws hpl.symm (by rw [sizeLine_eq]; omega) (fun x => some (.str (SX.S x))) ?_ ?_⟩
  · intro i y x H' R Rz hy hx s2 _ k2
    refine ⟨rfl, ?_⟩
    refine tYesIf ?_
    refine ⟨_, rfl, x, ?_, k2 _ _ rfl (Same.refl _)⟩
    rcases Paired.at hp hx hy with e | ⟨n, h1, h2, h3⟩
    · exact .inl (by rw [e])
    · exact .inr ⟨n, h1, by rw [h2], h3⟩
  intro H2 s2 hD2
  have eD : ws.filterMap (fun x => some (V.str (SX.S x))) = (ws.map SX.S).map V.str := by
    rw [List.map_map]
    exact congrFun List.filterMap_eq_map ws
  rw [eD] at hD2
  have hj := joinL_len hwl
  have hj2 : ws.length * (100 + 1) ≤ 1010 := by omega
  refine ⟨_, D, ws.map SX.S, rfl, rfl, .inl (SqL.of hD2), ?_, ?_⟩
  · have hs : ∀ {zs : List (List Nat)}, (∀ x ∈ zs, x.length ≤ 100) → ((zs.map SX.S).map (·.length)).sum ≤ zs.length * 100 := by
      intro zs
      induction zs with
      | nil => intro _; exact Nat.zero_le _
      | cons z zs ih =>
        intro h
        have h1 := h z (List.mem_cons_self ..)
        have h2 := ih fun x hx => h x (List.mem_cons_of_mem _ hx)
        simp only [List.map_cons, List.sum_cons, List.length_cons, SX.S_len]
        omega
    have := hs hwl
    show _ + (ws.map SX.S).length * 1 ≤ 16777216
    rw [List.length_map]
    omega
  rw [show (" " : Str) = SX.S [32] from by decide +kernel, show ("\n" : Str) = SX.S [10] from by decide +kernel, SX.join_S]
  refine ⟨_, _, rfl, rfl, (by rw [SX.S_len, SX.S_len, sizeLine_eq]; simp only [List.length_cons, List.length_nil]; omega), ?_⟩
  rw [SX.S_cat]
  exact k H2 s2
end
end Km
set_option Elab.async false
set_option linter.all false
set_option maxRecDepth 100000
set_option maxHeartbeats 4000000
/-! the law's book and plan texts -/
namespace Km
open PySem PySem.Spec PyProof.Rows L2
/-- a word as the law writes it -/
def keyW : List (List Nat) := [cs "base", cs "settings", cs "function", cs "columns", cs "thing", cs "kept", cs "again", cs "check", cs "free", cs "writers", cs "askers"]
def OrigW (x : List Nat) : Prop := (∃ t : Tr, t.wf = true ∧ t.size ≤ 6 ∧ x = txt t) ∨ (∃ n, n ≤ 9 ∧ x = [48 + n]) ∨ x ∈ keyW
def OrigL (ws : List (List Nat)) : Prop := ws ≠ [] ∧ ws.length ≤ 4 ∧ ∀ x ∈ ws, OrigW x
def textOf (wss : List (List (List Nat))) : List Nat := (wss.map lineT).flatten
theorem textOf_snoc (wss : List (List (List Nat))) (ws : List (List Nat)) : textOf (wss ++ [ws]) = textOf wss ++ lineT ws := by simp [textOf]
theorem OrigW.len {x : List Nat} (h : OrigW x) : x.length ≤ 22 := by
  rcases h with ⟨t, _, h2, rfl⟩ | ⟨n, _, rfl⟩ | h
  · have := txt_len t
    omega
  · show 1 ≤ 22
    decide
  · have : ∀ y ∈ keyW, y.length ≤ 22 := by decide +kernel
    exact this x h
theorem OrigL.len {ws : List (List Nat)} (h : OrigL ws) : (lineT ws).length ≤ 93 := by
  have h1 := joinL_len (m := 22) fun x hx => (h.2.2 x hx).len
  have h2 := h.2.1
  have h3 : ws.length * (22 + 1) ≤ 92 := by omega
  simp only [lineT, List.length_append, List.length_cons, List.length_nil]
  omega
theorem textOf_len {m : Nat} : ∀ {wss : List (List (List Nat))}, (∀ ws ∈ wss, (lineT ws).length ≤ m) → (textOf wss).length ≤ wss.length * m
  | [], _ => Nat.zero_le _
  | ws :: r, h => by
    have h1 := h ws (List.mem_cons_self ..)
    have h2 := textOf_len (m := m) (wss := r) fun x hx => h x (List.mem_cons_of_mem _ hx)
    simp only [textOf, List.map_cons, List.flatten_cons, List.length_append, List.length_cons] at h2 ⊢
    rw [Nat.add_mul]
    omega
section
variable {P : Program} {w : World} {K : PySem.W.Frag} {mg : Str → Option Value} {base : Heap}
theorem goods {H : Hp} {m : Nat} : ∀ {ws : List V}, (∀ x ∈ ws, GoodTr H m x) → ∃ ts, Paired (TreeAt H) ts ws ∧ ∀ t ∈ ts, t.wf = true ∧ t.size ≤ m
  | [], _ => ⟨[], .nil, fun _ h => by cases h⟩
  | x :: ws, h => by
    obtain ⟨t, h1, h2, h3⟩ := h x (List.mem_cons_self ..)
    obtain ⟨ts, g1, g2⟩ := goods fun y hy => h y (List.mem_cons_of_mem _ hy)
    exact ⟨t :: ts, .cons h1 g1, fun y hy => by
      rcases List.mem_cons.mp hy with rfl | hy
      · exact ⟨h2, h3⟩
      · exact g2 y hy⟩
theorem wd_txts : ∀ ts : List Tr, Paired WdV (ts.map txt) (ts.filterMap fun t => some (V.str (SX.S (txt t))))
  | [] => .nil
  | t :: ts => .cons (.inl rfl) (wd_txts ts)
theorem orig2 {k : List Nat} {n : Nat} (hk : k ∈ keyW) (hn : n ≤ 9) : OrigL [k, [48 + n]] := ⟨by simp, by show 2 ≤ 4; decide, fun x hx => by
  simp only [List.mem_cons, List.not_mem_nil, or_false] at hx
  rcases hx with rfl | rfl
  · exact .inr (.inr hk)
  · exact .inr (.inl ⟨n, hn, rfl⟩)⟩
theorem OrigL.wl {ws : List (List Nat)} (h : OrigL ws) : ∀ x ∈ ws, x.length ≤ 100 := fun x hx => Nat.le_trans (h.2.2 x hx).len (by decide)
theorem scBT : FnScope ["parts", "found", "bodies", "tree"] ["parts"] (defScope (top 68)) := ⟨rfl, rfl, rfl, by decide +kernel, rfl, by decide +kernel, by decide +kernel⟩
def spBT : Sp := fun vs H Q _ => ∃ v, vs = [v] ∧ PlV H v ∧ ∀ wss H', Same H H' → (∀ ws ∈ wss, OrigL ws) → wss.length ≤ 5 → Q (.str (SX.S (textOf wss))) H'
theorem ok_bt (T : Lw P K mg w) : CalX CX0 P w K mg base 8 "_law_book_text" spBT := by
  refine cal_of T.dBookText scBT (fun _ _ _ _ _ _ us hl => match us, hl with | [_], _ => rfl) (fun vs H Q E ⟨v, e, _⟩ => by rw [e]; rfl) ?_
  rintro f cdv A outer s H vs Q E hr ⟨v, rfl, hv, k⟩
  have nd := scBT.nd
  have B := T.t.r.f.B
  have hu1 : ∀ {n : Nat}, n + 64 < cLine → n + 1 < cLine := fun h => by omega
  refine ⟨_, pss_cons (ps_set (i := 1) nd rfl (Or.inl rfl) (pe_op op_add_str (pe_cx (ok_line T) hr pass0 (by rfl) (pa_cons (pe_lst (pa_cons pe_str (pa_cons (pe_dget (hu1 hr.units) (pv 0) pe_str (fun _ _ => rfl)) pa_nil))) pa_nil)) (pe_cx (ok_line T) hr pass0 (by rfl) (pa_cons (pe_lst (pa_cons pe_str (pa_cons (pe_dget (hu1 hr.units) (pv 0) pe_str (fun _ _ => rfl)) pa_nil))) pa_nil))))
    (pss_cons (ps_for (passes_of rfl) rfl (pi_tup (pe_dget (hu1 hr.units) (pv 0) pe_str (fun _ _ => rfl))) (pg_name (i := 2) nd rfl (Or.inl rfl))
      (pss_one (ps_set (i := 1) nd rfl (Or.inl rfl) (pe_op op_add_str (pv 1) (pe_cx (ok_line T) hr pass0 (by rfl) (pa_cons (pe_op op_cat (pe_lst (pa_cons pe_str pa_nil))
        (pe_lc (own := [("tree", 3)]) (by rfl) nd (pi_tup (pv 2)) (blkOk_by (N := ["parts", "found", "bodies", "tree"]) (sc := defScope (top 68)) (by decide +kernel))
          (fun _ _ _ _ _ => pg_name (i := 3) nd rfl (Or.inl rfl)) (fun _ _ _ _ _ => pts_nil) (fun _ _ _ _ _ => pe_cx (ok_txt T 6) hr pass0 (by rfl) (pa_cons (pv 3) pa_nil)))) pa_nil))))))
    (pss_one (ps_ret (pv 1)))), ?_⟩
  obtain ⟨a, b, st, c, n, fv, tv, xv, yv, zv, rfl, ha, hb, hst, hc, hn, ⟨fa, fvs, rfl, hfa, hfn, hfb⟩, _⟩ := hv
  have wS : ∀ {m : Nat}, m ≤ 10000 → m ≤ sizeLine := fun h => by rw [sizeLine_eq]; omega
  have OL1 : OrigL [cs "base", [48 + b]] := orig2 (by simp [keyW]) (by omega)
  have OL2 : OrigL [cs "settings", [48 + st]] := orig2 (by simp [keyW]) (by omega)
  refine ⟨_, rfl, a, _, rfl, .inl ⟨_, .inr "base", .inl ha, rfl, rfl⟩, by show 2 ≤ sizeLine; decide, fun l1 hl1 => ?_⟩
  have s1 := same_upd (o := .lst [.str "base", .int (b : Int)]) hl1
  have hl1v := upd_same (H := H) (a := l1) (o := .lst [.str "base", .int (b : Int)])
  generalize upd H l1 (.lst [.str "base", .int (b : Int)]) = H1 at s1 hl1v
  refine ⟨l1, [cs "base", [48 + b]], _, rfl, SqL.of hl1v, .cons (.inl (by decide +kernel)) (.cons (.inr ⟨b, by omega, rfl, rfl⟩) .nil), by show 2 ≤ 10; decide, ?_, fun H2 s2 => ?_⟩
  · exact OL1.wl
  have s3 := s1.trans s2
  refine ⟨_, rfl, a, _, rfl, .inl ⟨_, .inr "settings", .inl (s3 _ _ ha), rfl, rfl⟩, by show 2 ≤ sizeLine; decide, fun l2 hl2 => ?_⟩
  have s4 := same_upd (o := .lst [.str "settings", .int (st : Int)]) hl2
  have hl2v := upd_same (H := H2) (a := l2) (o := .lst [.str "settings", .int (st : Int)])
  generalize upd H2 l2 (.lst [.str "settings", .int (st : Int)]) = H3 at s4 hl2v
  refine ⟨l2, [cs "settings", [48 + st]], _, rfl, SqL.of hl2v, .cons (.inl (by decide +kernel)) (.cons (.inr ⟨st, by omega, rfl, rfl⟩) .nil), by show 2 ≤ 10; decide, ?_, fun H4 s5 => ?_⟩
  · exact OL2.wl
  have s6 := s3.trans (s4.trans s5)
  refine ⟨_, _, rfl, rfl, ?_, ?_⟩
  · rw [SX.S_len, SX.S_len]
    have h1 := OL1.len
    have h2 := OL2.len
    exact wS (by omega)
  rw [SX.S_cat]
  rw [show lineT [cs "base", [48 + b]] ++ lineT [cs "settings", [48 + st]] = textOf [[cs "base", [48 + b]], [cs "settings", [48 + st]]] from by simp [textOf]]
  refine ⟨_, rfl, a, _, rfl, .inl ⟨_, .inr "functions", .inl (s6 _ _ ha), rfl, rfl⟩, fa, rfl, ⟨_, .inl (.inl (s6 _ _ hfa))⟩, for_tup (xs := fvs) (fun i σ H' => ∃ wss x2, σ = [some (.ref a), some (.str (SX.S (textOf wss))), x2, none] ∧ Same H H' ∧ (∀ ws ∈ wss, OrigL ws) ∧ wss.length = 2 + i)
    ⟨[[cs "base", [48 + b]], [cs "settings", [48 + st]]], _, rfl, s6, fun ws hw => by
      simp only [List.mem_cons, List.not_mem_nil, or_false] at hw
      rcases hw with rfl | rfl
      · exact OL1
      · exact OL2, rfl⟩ (fun i σ H' _ ⟨_, _, _, s7, _⟩ => .inl (.inl (s7 _ _ hfa))) ?_ ?_⟩
  · rintro i x σ H5 hx ⟨wss, x2, rfl, s7, hws, hwl⟩
    have hi : i < fvs.length := (List.getElem?_eq_some_iff.mp hx).1
    obtain ⟨bb, bs, rfl, hbb, hb1, hb3, hbg⟩ := hfb x (List.mem_of_getElem? hx)
    obtain ⟨ts, hts, htw⟩ := goods hbg
    have htl := Paired.len hts
    refine ⟨_, rfl, by show 1 ≤ sizeLine; decide, fun l3 hl3 => ?_⟩
    have s8 := same_upd (o := .lst [.str "function"]) hl3
    have hl3v := upd_same (H := H5) (a := l3) (o := .lst [.str "function"])
    generalize upd H5 l3 (.lst [.str "function"]) = H6 at s8 hl3v
    have hbb6 := s8 _ _ (s7 _ _ hbb)
    have hts6 : Paired (TreeAt H6) ts bs := L2.Paired.mapP hts fun _ _ h => h.tups (Same.tups (s7.trans s8))
    refine ⟨_, rfl, bb, rfl, ⟨_, .inl (.inl hbb6)⟩, fun D hD => lc_tupS hD (.inl (.inl hbb6)) ts htl.symm (by rw [sizeLine_eq]; omega) (fun t => some (.str (SX.S (txt t)))) ?_ ?_⟩
    · intro j y t H' R Rz hy ht s9 _ k2
      refine ⟨rfl, ?_⟩
      refine tYesIf ?_
      have hm := htw t (List.mem_of_getElem? ht)
      exact ⟨_, rfl, y, t, rfl, (Paired.at hts6 ht hy).tups (Same.tups s9), hm.1, hm.2, by decide, fun H'' s10 => k2 _ _ rfl s10⟩
    intro H7 s9 hD7
    refine ⟨l3, D, _, _, rfl, rfl, s9 _ _ hl3v, hD7, ?_, fun l4 hl4 => ?_⟩
    · have := List.length_filterMap_le (fun t => some (V.str (SX.S (txt t)))) ts
      rw [sizeLine_eq]
      show 1 + _ ≤ _
      omega
    have s10 := same_upd (o := .lst ([.str "function"] ++ ts.filterMap fun t => some (.str (SX.S (txt t))))) hl4
    have hl4v := upd_same (H := H7) (a := l4) (o := .lst ([.str "function"] ++ ts.filterMap fun t => some (.str (SX.S (txt t)))))
    generalize upd H7 l4 (.lst ([.str "function"] ++ ts.filterMap fun t => some (.str (SX.S (txt t))))) = H8 at s10 hl4v
    have OL : OrigL (cs "function" :: ts.map txt) := ⟨by simp, by rw [List.length_cons, List.length_map]; omega, fun x hx => by
      rcases List.mem_cons.mp hx with rfl | hx
      · exact .inr (.inr (by simp [keyW]))
      · obtain ⟨t, ht, rfl⟩ := List.mem_map.mp hx
        exact .inl ⟨t, (htw t ht).1, (htw t ht).2, rfl⟩⟩
    refine ⟨l4, cs "function" :: ts.map txt, _, rfl, SqL.of hl4v, .cons (.inl (by decide +kernel)) (wd_txts ts), Nat.le_trans OL.2.1 (by decide), OL.wl, fun H9 s11 => ⟨_, _, rfl, rfl, ?_, ?_⟩⟩
    · have h1 := textOf_len (m := 93) (wss := wss) fun ws hw => (hws ws hw).len
      have h2 := OL.len
      rw [SX.S_len, SX.S_len]
      exact wS (by omega)
    rw [SX.S_cat, ← textOf_snoc]
    refine ⟨wss ++ [cs "function" :: ts.map txt], _, rfl, s7.trans (s8.trans (s9.trans (s10.trans s11))), fun ws hw => ?_, by rw [List.length_append, List.length_singleton]; omega⟩
    rcases List.mem_append.mp hw with hw | hw
    · exact hws ws hw
    · rw [List.mem_singleton.mp hw]; exact OL
  · rintro σ H5 ⟨wss, x2, rfl, s7, hws, hwl⟩
    exact ⟨_, rfl, k wss H5 s7 hws (by omega)⟩
/-! ### _law_plan_text -/
theorem mode_key (mo : Mode) : ∃ x ∈ keyW, V.str mo.str = .str (SX.S x) := by
  cases mo
  · exact ⟨cs "kept", by simp [keyW], by decide +kernel⟩
  · exact ⟨cs "again", by simp [keyW], by decide +kernel⟩
  · exact ⟨cs "check", by simp [keyW], by decide +kernel⟩
theorem wd_nums : ∀ ns : List Nat, (∀ n ∈ ns, n ≤ 2) → Paired WdV (ns.map fun n => [48 + n]) (nV ns)
  | [], _ => .nil
  | n :: ns, h => .cons (.inr ⟨n, Nat.le_trans (h n (List.mem_cons_self ..)) (by decide), rfl, rfl⟩) (wd_nums ns fun y hy => h y (List.mem_cons_of_mem _ hy))
theorem scPT : FnScope ["parts", "found", "mode", "tree", "word"] ["parts"] (defScope (top 69)) := ⟨rfl, rfl, rfl, by decide +kernel, rfl, by decide +kernel, by decide +kernel⟩
def spPT : Sp := fun vs H Q _ => ∃ v, vs = [v] ∧ PlV H v ∧ ∀ wss H', Same H H' → (∀ ws ∈ wss, OrigL ws) → wss.length ≤ 12 → Q (.str (SX.S (textOf wss))) H'
theorem ok_pt (T : Lw P K mg w) : CalX CX0 P w K mg base 9 "_law_plan_text" spPT := by
  refine cal_of T.dPlanText scPT (fun _ _ _ _ _ _ us hl => match us, hl with | [_], _ => rfl) (fun vs H Q E ⟨v, e, _⟩ => by rw [e]; rfl) ?_
  rintro f cdv A outer s H vs Q E hr ⟨v, rfl, hv, k⟩
  have nd := scPT.nd
  have B := T.t.r.f.B
  have hu1 : ∀ {n : Nat}, n + 64 < cLine → n + 1 < cLine := fun h => by omega
  refine ⟨_, pss_cons (ps_set (i := 1) nd rfl (Or.inl rfl) (pe_op op_add_str (pe_cx (ok_bt T) hr pass0 (by rfl) (pa_cons (pv 0) pa_nil)) (pe_cx (ok_line T) hr pass0 (by rfl) (pa_cons (pe_lst (pa_cons pe_str (pa_cons (pe_dget (hu1 hr.units) (pv 0) pe_str (fun _ _ => rfl)) pa_nil))) pa_nil))))
    (pss_cons (ps_for (passes_of rfl) rfl (pi_tup (pe_dget (hu1 hr.units) (pv 0) pe_str (fun _ _ => rfl))) (pg_tup rfl (pgs_cons (pg_name (i := 2) nd rfl (Or.inl rfl)) (pgs_cons (pg_name (i := 3) nd rfl (Or.inl rfl)) pgs_nil)))
      (pss_one (ps_set (i := 1) nd rfl (Or.inl rfl) (pe_op op_add_str (pv 1) (pe_cx (ok_line T) hr pass0 (by rfl) (pa_cons (pe_lst (pa_cons pe_str (pa_cons (pv 2) (pa_cons (pe_cx (ok_txt T 6) hr pass0 (by rfl) (pa_cons (pv 3) pa_nil)) pa_nil)))) pa_nil))))))
    (pss_cons (ps_for (passes_of rfl) rfl (pi_tup (pe_tup (pa_cons pe_str (pa_cons pe_str (pa_cons pe_str pa_nil))))) (pg_name (i := 4) nd rfl (Or.inl rfl))
      (pss_one (ps_set (i := 1) nd rfl (Or.inl rfl) (pe_op op_add_str (pv 1) (pe_cx (ok_line T) hr pass0 (by rfl) (pa_cons (pe_op op_cat (pe_lst (pa_cons (pv 4) pa_nil)) (pe_callTy call_list_of (by rfl) B.list_ (by decide +kernel) (pa_cons (pe_dget (hu1 hr.units) (pv 0) (pv 4) (fun _ _ => rfl)) pa_nil))) pa_nil))))))
    (pss_one (ps_ret (pv 1))))), ?_⟩
  have hv0 := hv
  obtain ⟨a, b, st, c, n, fv, tv, xv, yv, zv, rfl, ha, hb, hst, hc, hn, hfv, ⟨ta, tvs, rfl, hta, htl, htg⟩, hxv, hyv, hzv⟩ := hv
  have wS : ∀ {m : Nat}, m ≤ 10000 → m ≤ sizeLine := fun h => by rw [sizeLine_eq]; omega
  have OL1 : OrigL [cs "columns", [48 + c]] := orig2 (by simp [keyW]) (by omega)
  have tl : ∀ {wss : List (List (List Nat))}, (∀ ws ∈ wss, OrigL ws) → wss.length ≤ 12 → (textOf wss).length ≤ 2000 := fun h h2 => by
    have h1 := textOf_len (m := 93) fun ws hw => (h ws hw).len
    omega
  refine ⟨_, rfl, .ref a, rfl, hv0, fun wss H1 s1 hws hwl => ⟨_, rfl, a, _, rfl, .inl ⟨_, .inr "columns", .inl (s1 _ _ ha), rfl, rfl⟩, by show 2 ≤ sizeLine; decide, fun l1 hl1 => ?_⟩⟩
  have s2 := same_upd (o := .lst [.str "columns", .int (c : Int)]) hl1
  have hl1v := upd_same (H := H1) (a := l1) (o := .lst [.str "columns", .int (c : Int)])
  generalize upd H1 l1 (.lst [.str "columns", .int (c : Int)]) = H2 at s2 hl1v
  refine ⟨l1, [cs "columns", [48 + c]], _, rfl, SqL.of hl1v, .cons (.inl (by decide +kernel)) (.cons (.inr ⟨c, by omega, rfl, rfl⟩) .nil), by show 2 ≤ 10; decide, OL1.wl, fun H3 s3 => ⟨_, _, rfl, rfl, ?_, ?_⟩⟩
  · have h1 := tl hws (by omega)
    have h2 := OL1.len
    rw [SX.S_len, SX.S_len]
    exact wS (by omega)
  rw [SX.S_cat, ← textOf_snoc]
  have s4 := s1.trans (s2.trans s3)
  refine ⟨_, rfl, a, _, rfl, .inl ⟨_, .inr "things", .inl (s4 _ _ ha), rfl, rfl⟩, ta, rfl, ⟨_, .inl (.inl (s4 _ _ hta))⟩, for_tup (xs := tvs) (fun i σ H' => ∃ wss x2 x3, σ = [some (.ref a), some (.str (SX.S (textOf wss))), x2, x3, none] ∧ Same H H' ∧ (∀ ws ∈ wss, OrigL ws) ∧ wss.length ≤ 6 + i)
    ⟨wss ++ [[cs "columns", [48 + c]]], _, _, rfl, s4, fun ws hw => by
      rcases List.mem_append.mp hw with hw | hw
      · exact hws ws hw
      · rw [List.mem_singleton.mp hw]; exact OL1, by rw [List.length_append, List.length_singleton]; omega⟩ (fun i σ H' _ ⟨_, _, _, _, s7, _⟩ => .inl (.inl (s7 _ _ hta))) ?_ ?_⟩
  · rintro i x σ H5 hx ⟨wss, x2, x3, rfl, s7, hws, hwl⟩
    have hi : i < tvs.length := (List.getElem?_eq_some_iff.mp hx).1
    obtain ⟨pa, mo, u, rfl, hpa, t, ht1, ht2, ht3⟩ := htg x (List.mem_of_getElem? hx)
    obtain ⟨mk, hmk, emk⟩ := mode_key mo
    refine ⟨pa, _, rfl, .inl (.inl (s7 _ _ hpa)), rfl, _, _, rfl, _, _, rfl, rfl, ?_⟩
    refine ⟨_, rfl, _, rfl, _, rfl, u, t, rfl, ht1.tups (Same.tups s7), ht2, ht3, by decide, fun H6 s8 => ⟨by show 3 ≤ sizeLine; decide, fun l2 hl2 => ?_⟩⟩
    have s9 := same_upd (o := .lst [.str "thing", .str mo.str, .str (SX.S (txt t))]) hl2
    have hl2v := upd_same (H := H6) (a := l2) (o := .lst [.str "thing", .str mo.str, .str (SX.S (txt t))])
    generalize upd H6 l2 (.lst [.str "thing", .str mo.str, .str (SX.S (txt t))]) = H7 at s9 hl2v
    have OL : OrigL [cs "thing", mk, txt t] := ⟨by simp, by show 3 ≤ 4; decide, fun x hx => by
      simp only [List.mem_cons, List.not_mem_nil, or_false] at hx
      rcases hx with rfl | rfl | rfl
      · exact .inr (.inr (by simp [keyW]))
      · exact .inr (.inr hmk)
      · exact .inl ⟨t, ht2, ht3, rfl⟩⟩
    refine ⟨l2, [cs "thing", mk, txt t], _, rfl, SqL.of hl2v, .cons (.inl (by decide +kernel)) (.cons (.inl emk) (.cons (.inl rfl) .nil)), by show 3 ≤ 10; decide, OL.wl, fun H8 s10 => ⟨_, _, rfl, rfl, ?_, ?_⟩⟩
    · have h1 := tl hws (by omega)
      have h2 := OL.len
      rw [SX.S_len, SX.S_len]
      exact wS (by omega)
    rw [SX.S_cat, ← textOf_snoc]
    refine ⟨wss ++ [[cs "thing", mk, txt t]], _, _, rfl, s7.trans (s8.trans (s9.trans s10)), fun ws hw => ?_, by rw [List.length_append, List.length_singleton]; omega⟩
    rcases List.mem_append.mp hw with hw | hw
    · exact hws ws hw
    · rw [List.mem_singleton.mp hw]; exact OL
  rintro σ H5 ⟨wss, x2, x3, rfl, s7, hws, hwl⟩
  refine ⟨by show 3 ≤ sizeLine; decide, fun p hp => ?_⟩
  have s8 := same_upd (o := .tup [.str "free", .str "writers", .str "askers"]) hp
  have hpv := upd_same (H := H5) (a := p) (o := .tup [.str "free", .str "writers", .str "askers"])
  generalize upd H5 p (.tup [.str "free", .str "writers", .str "askers"]) = H6 at s8 hpv
  refine ⟨p, rfl, ⟨_, .inl (.inl hpv)⟩, for_tup (xs := [.str "free", .str "writers", .str "askers"]) (fun i σ H' => ∃ wss x2 x3 x4, σ = [some (.ref a), some (.str (SX.S (textOf wss))), x2, x3, x4] ∧ Same H H' ∧ Same H6 H' ∧ (∀ ws ∈ wss, OrigL ws) ∧ wss.length ≤ 9 + i)
    ⟨wss, _, _, _, rfl, s7.trans s8, Same.refl _, hws, by omega⟩ (fun i σ H' _ ⟨_, _, _, _, _, _, s9, _⟩ => .inl (.inl (s9 _ _ hpv))) ?_ ?_⟩
  · rintro i x σ H7 hx ⟨wss, x2, x3, x4, rfl, s9, s9', hws, hwl⟩
    have hi : i < 3 := (List.getElem?_eq_some_iff.mp hx).1
    obtain ⟨z, zw, sv, rfl, ez, hzw, hget, ⟨sa, ns, rfl, hsa, hsl, hsn⟩⟩ : ∃ (z : Str) (zw : List Nat) (sv : V), x = .str z ∧ V.str z = .str (SX.S zw) ∧ zw ∈ keyW ∧ (∀ {H'' : Hp}, Same H H'' → DGet H'' a (.str z) (some sv)) ∧ SmV H sv := by
      match i, hx, hi with
      | 0, hx, _ => cases hx; exact ⟨"free", cs "free", xv, rfl, by decide +kernel, by simp [keyW], fun e => .inl ⟨_, .inr "free", .inl (e _ _ ha), rfl, rfl⟩, hxv⟩
      | 1, hx, _ => cases hx; exact ⟨"writers", cs "writers", yv, rfl, by decide +kernel, by simp [keyW], fun e => .inl ⟨_, .inr "writers", .inl (e _ _ ha), rfl, rfl⟩, hyv⟩
      | 2, hx, _ => cases hx; exact ⟨"askers", cs "askers", zv, rfl, by decide +kernel, by simp [keyW], fun e => .inl ⟨_, .inr "askers", .inl (e _ _ ha), rfl, rfl⟩, hzv⟩
    refine ⟨_, rfl, _, rfl, by show 1 ≤ sizeLine; decide, fun l3 hl3 => ?_⟩
    have q1 := same_upd (o := .lst [.str z]) hl3
    have hl3v := upd_same (H := H7) (a := l3) (o := .lst [.str z])
    generalize upd H7 l3 (.lst [.str z]) = H8 at q1 hl3v
    refine ⟨_, rfl, _, rfl, a, _, rfl, hget (s9.trans q1), sa, _, rfl, .inr (.inl (.inl ((s9.trans q1) _ _ hsa))), fun l4 hl4 => ?_⟩
    have q2 := same_upd (o := .lst (nV ns)) hl4
    refine ⟨l3, l4, _, _, rfl, rfl, q2 _ _ hl3v, upd_same, (by rw [nV, List.length_map, sizeLine_eq]; show 1 + _ ≤ _; omega), fun l5 hl5 => ?_⟩
    have q3 := same_upd (o := .lst ([.str z] ++ nV ns)) hl5
    have hl5v := upd_same (H := upd H8 l4 (.lst (nV ns))) (a := l5) (o := .lst ([.str z] ++ nV ns))
    have q4 := q1.trans (q2.trans q3)
    generalize upd (upd H8 l4 (.lst (nV ns))) l5 (.lst ([.str z] ++ nV ns)) = H9 at q4 hl5v
    have OL : OrigL (zw :: ns.map fun n => [48 + n]) := ⟨by simp, by rw [List.length_cons, List.length_map]; omega, fun x hx => by
      rcases List.mem_cons.mp hx with rfl | hx
      · exact .inr (.inr hzw)
      · obtain ⟨n, hn, rfl⟩ := List.mem_map.mp hx
        exact .inr (.inl ⟨n, Nat.le_trans (hsn n hn) (by decide), rfl⟩)⟩
    refine ⟨l5, zw :: ns.map fun n => [48 + n], _, rfl, SqL.of hl5v, .cons (.inl ez) (wd_nums ns hsn), Nat.le_trans OL.2.1 (by decide), OL.wl, fun H10 q5 => ⟨_, _, rfl, rfl, ?_, ?_⟩⟩
    · have h1 := tl hws (by omega)
      have h2 := OL.len
      rw [SX.S_len, SX.S_len]
      exact wS (by omega)
    rw [SX.S_cat, ← textOf_snoc]
    refine ⟨wss ++ [zw :: ns.map fun n => [48 + n]], _, _, _, rfl, s9.trans (q4.trans q5), s9'.trans (q4.trans q5), fun ws hw => ?_, by rw [List.length_append, List.length_singleton]; omega⟩
    rcases List.mem_append.mp hw with hw | hw
    · exact hws ws hw
    · rw [List.mem_singleton.mp hw]; exact OL
  · rintro σ H7 ⟨wss, x2, x3, x4, rfl, s9, s9', hws, hwl⟩
    exact ⟨_, rfl, k wss H7 s9 hws (by show wss.length ≤ 9 + 3; exact hwl)⟩
end
end Km
set_option Elab.async false
set_option linter.all false
set_option maxRecDepth 100000
set_option maxHeartbeats 4000000
/-! the law's reading of digits, lines -/
namespace Km
open PySem PySem.Spec PyProof.Rows L2
section
variable {P : Program} {w : World} {K : PySem.W.Frag} {mg : Str → Option Value} {base : Heap}
theorem scLDg : FnScope ["words", "word"] ["words"] (defScope (top 74)) := ⟨rfl, rfl, rfl, by decide +kernel, rfl, by decide +kernel, by decide +kernel⟩
theorem ok_ldg (T : Lw P K mg w) : CalX CX0 P w K mg base 1 "_law_digits" (spDg K) := by
  refine cal_of T.dLDigits scLDg (fun _ _ _ _ _ _ us hl => match us, hl with | [_], _ => rfl) (fun vs H Q E ⟨a, ws, e, _⟩ => by rw [e]; rfl) ?_
  rintro f cdv A outer s H vs Q E hr ⟨a, ws, rfl, ha, hwl, hxl, k⟩
  have nd := scLDg.nd
  have B := T.t.r.f.B
  refine ⟨_, pss_cons (ps_if (pt_not (pt_val (pe_callB (cr_all rfl) (by rfl) B.all_ (by decide +kernel) (pa_cons
      (pe_lc (own := [("word", 1)]) (by rfl) nd (pi_list (pv 0)) (blkOk_by (N := ["words", "word"]) (sc := defScope (top 74)) (by decide +kernel))
        (fun _ _ _ _ _ => pg_name (i := 1) nd rfl (Or.inl rfl)) (fun _ _ _ _ _ => pts_nil)
        (fun _ _ _ _ _ => pe_and (pe_cmpR op_eq (pe_callB (call_lenK K rfl) (by rfl) B.len_ PySem.boot_len (pa_cons (pv 1) pa_nil)) pe_int (nomark _)) (pe_one (pe_cmpR op_in_sign (pv 1) pe_str (by rfl))))) pa_nil)))) (pss_one (ps_ret pe_non)) pss_nil)
    (pss_one (ps_ret (pe_lc (own := [("word", 1)]) (by rfl) nd (pi_list (pv 0)) (blkOk_by (N := ["words", "word"]) (sc := defScope (top 74)) (by decide +kernel))
        (fun _ _ _ _ _ => pg_name (i := 1) nd rfl (Or.inl rfl)) (fun _ _ _ _ _ => pts_nil)
        (fun _ _ _ _ _ => pe_callTy call_int_str (by rfl) B.int_ (by decide +kernel) (pa_cons (pv 1) pa_nil))))), ?_⟩
  refine ⟨_, rfl, a, rfl, ⟨_, ha⟩, fun D1 hD1 => lc_listS hD1 ha ws (by simp [wV]) (by rw [sizeLine_eq]; omega) (fun x => some (.bl (dg1 x))) ?_ ?_⟩
  · intro i x y H' R Rz hx hy s1 _ ks
    rw [wV, List.getElem?_map, hy] at hx
    cases hx
    have hyl := hxl y (List.mem_of_getElem? hy)
    refine ⟨rfl, iteT (B := R H') ⟨_, rfl, .str (SX.S y), _, rfl, ⟨by rw [SX.S_len, sizeLine_eq]; omega, rfl⟩, rfl, _, rfl, ?_⟩⟩
    rw [SX.S_len]
    match y with
    | [] => exact iteF (ks _ _ rfl (Same.refl _))
    | [c] =>
      refine iteT ⟨_, rfl, c, _, rfl, rfl, ?_⟩
      rw [dig_mem]
      exact ks _ _ rfl (Same.refl _)
    | c :: d :: r =>
      rw [show decide (V.int ((c :: d :: r).length : Int) = V.int 1) = false from by simp; omega]
      exact iteF (ks _ _ rfl (Same.refl _))
  · intro H1 s1 hDq
    rw [List.filterMap_eq_map', show ws.map (fun x => V.bl (dg1 x)) = (ws.map dg1).map V.bl from by rw [List.map_map]; rfl] at hDq
    refine ⟨D1, _, rfl, SqL.of hDq, _, rfl, ?_⟩
    rw [List.all_map, show (id ∘ dg1) = dg1 from rfl]
    cases hall : ws.all dg1 with
    | false => exact iteT (k _ _ s1 (.inl ⟨by unfold digs; rw [hall]; rfl, rfl⟩))
    | true =>
      refine iteF ⟨_, rfl, a, rfl, ⟨_, s1.seq ha⟩, fun D2 hD2 => lc_listS hD2 (s1.seq ha) ws (by simp [wV]) (by rw [sizeLine_eq]; omega) (fun x => some (.int ((dgv x : Nat) : Int))) ?_ ?_⟩
      · intro i x y H' R Rz hx hy s2 _ ks
        rw [wV, List.getElem?_map, hy] at hx
        cases hx
        have hyd := List.all_eq_true.mp hall y (List.mem_of_getElem? hy)
        match y, hyd with
        | [c], hyd =>
          have hyd : 48 ≤ c ∧ c ≤ 57 := of_decide_eq_true hyd
          exact ⟨rfl, iteT (B := R H') ⟨_, rfl, _, _, rfl, int1 hyd, (by rw [SX.S_len]; show 1 ≤ 640; decide), ks _ _ rfl (Same.refl _)⟩⟩
      · intro H2 s2 hDq2
        rw [List.filterMap_eq_map'] at hDq2
        refine k _ H2 (s1.trans s2) (.inr ⟨ws.map dgv, D2, by unfold digs; rw [hall]; rfl, rfl, Same.free s1 hD2, ?_⟩)
        rw [hDq2, nV, List.map_map]
        rfl
/-! ### _law_lines -/
theorem scLL : FnScope ["text", "found"] ["text"] (defScope (top 79)) := ⟨rfl, rfl, rfl, by decide +kernel, rfl, by decide +kernel, by decide +kernel⟩
theorem ok_ll (T : Lw P K mg w) : CalX CX0 P w K mg base 1 "_law_lines" spLO := by
  refine cal_of T.dLLines scLL (fun _ _ _ _ _ _ us hl => match us, hl with | [_], _ => rfl) (fun vs H Q E ⟨l, e, _⟩ => by rw [e]; rfl) ?_
  rintro f cdv A outer s H vs Q E hr ⟨l, rfl, hl, k⟩
  have nd := scLL.nd
  have B := T.t.r.f.B
  refine ⟨_, pss_cons (ps_set (i := 1) nd rfl (Or.inl rfl) (pe_split (pv 0) pe_str))
    (pss_one (ps_ret (pe_tup (pa_cons (pe_slice sl_list (pv 1) po_none (po_some (pe_un un_neg pe_int))) (pa_cons (pe_cmpR op_eq (pe_ix ix_list (pv 1) (pe_un un_neg pe_int) (fun _ _ => rfl)) pe_str (nomark _)) pa_nil))))), ?_⟩
  refine ⟨_, rfl, ⟨_, rfl⟩, SX.S l, _, rfl, rfl, by decide +kernel, by rw [SX.S_len, sizeLine_eq]; omega, fun p hp => ?_⟩
  have e1 : (Txt.split (SX.S l) ("\n" : Str)).map V.str = wV (linesOf l) ++ [.str (SX.S (lastOf l))] := by
    rw [nlS, split_cut _ _ (by decide), cut_last l, List.map_append, List.map_append, wV, List.map_map]
    rfl
  rw [e1]
  have s1 := same_upd (o := .lst (wV (linesOf l) ++ [.str (SX.S (lastOf l))])) hp
  refine ⟨_, rfl, _, rfl, _, rfl, p, _, rfl, SqL.of upd_same, fun q hq => ?_⟩
  have s2 := same_upd (o := .lst (cutV (wV (linesOf l) ++ [.str (SX.S (lastOf l))]) none (some (-1)))) hq
  refine ⟨_, rfl, _, rfl, p, _, _, _, rfl, rfl, SqL.of (s2 _ _ upd_same), atI_last _ _, rfl, (by show 2 ≤ sizeLine; decide), fun t ht => ?_⟩
  have s3 := same_upd (o := .tup [.ref q, .bl (decide (V.str (SX.S (lastOf l)) = V.str ""))]) ht
  refine k t q _ (s1.trans (s2.trans s3)) (Same.free (s1.trans s2) ht) (Same.free s1 hq) ?_ ?_
  · rw [upd_same, eq_empty]
    rfl
  · refine s3 _ _ ?_
    rw [upd_same, cutV_last]
end
end Km
set_option Elab.async false
set_option linter.all false
set_option maxRecDepth 100000
set_option maxHeartbeats 4000000
/-! the law's reader, plain -/
namespace Km
/-- _law_read on the rest of the text; the first number bounds how deep -/
def lrd : Nat → List Nat → Option (Tr × List Nat)
  | 0, _ => none
  | _ + 1, [] => none
  | n + 1, c :: r =>
    if 48 ≤ c ∧ c ≤ 50 then some (.num (c - 48), r)
    else if c = 103 then some (.given, r)
    else if c = 115 then some (.setting, r)
    else if c = 99 then (digO 1 r).map fun p => (.col p.1, p.2)
    else if c = 107 then (digO 1 r).map fun p => (.kept p.1, p.2)
    else if c = 102 then (digO 2 r).bind fun p => (expO 40 p.2).bind fun r1 => (lrd n r1).bind fun q => (expO 41 q.2).map fun r2 => (.call p.1 q.1, r2)
    else if c = 40 then (lrd n r).bind fun q => (lrd n (q.2.drop 1)).bind fun q2 => match q.2 with
      | [] => none
      | s :: _ => match opOf s, expO 41 q2.2 with
        | some o, some r2 => some (.bin o q.1 q2.1, r2)
        | _, _ => if s = 63 then (expO 58 q2.2).bind fun r2 => (lrd n r2).bind fun q3 => (expO 41 q3.2).map fun r3 => (.whn q.1 q2.1 q3.1, r3) else none
    else none
theorem lrd_txt : ∀ {d : Nat} {l r : List Nat} {t : Tr}, lrd d l = some (t, r) → l = txt t ++ r ∧ t.wf = true
  | 0, _, _, _, h => by simp [lrd] at h
  | _ + 1, [], _, _, h => by simp [lrd] at h
  | d + 1, c :: l, r, t, h => by
    simp only [lrd] at h
    split at h
    · cases h
      rename_i hc
      refine ⟨by simp only [txt, List.cons_append, List.nil_append]; rw [show 48 + (c - 48) = c by omega], by simp only [Tr.wf, decide_eq_true_eq]; omega⟩
    split at h
    · cases h; rename_i hc; subst hc; exact ⟨rfl, rfl⟩
    split at h
    · cases h; rename_i hc; subst hc; exact ⟨rfl, rfl⟩
    split at h
    · rename_i hc; subst hc
      obtain ⟨⟨n, r'⟩, e1, e2⟩ := Option.map_eq_some_iff.mp h
      cases e2
      obtain ⟨rfl, hn⟩ := digO_some e1
      exact ⟨rfl, by simp only [Tr.wf, decide_eq_true_eq]; omega⟩
    split at h
    · rename_i hc; subst hc
      obtain ⟨⟨n, r'⟩, e1, e2⟩ := Option.map_eq_some_iff.mp h
      cases e2
      obtain ⟨rfl, hn⟩ := digO_some e1
      exact ⟨rfl, by simp only [Tr.wf, decide_eq_true_eq]; omega⟩
    split at h
    · rename_i hc; subst hc
      obtain ⟨⟨n, l1⟩, e1, h⟩ := Option.bind_eq_some_iff.mp h
      obtain ⟨l2, e2, h⟩ := Option.bind_eq_some_iff.mp h
      obtain ⟨⟨a, l3⟩, e3, h⟩ := Option.bind_eq_some_iff.mp h
      obtain ⟨l4, e4, h⟩ := Option.map_eq_some_iff.mp h
      cases h
      obtain ⟨rfl, hn⟩ := digO_some e1
      have e2 := expO_some e2
      have e4 := expO_some e4
      obtain ⟨i1, i2⟩ := lrd_txt e3
      dsimp only at e2 e4
      subst e2 e4
      refine ⟨by rw [i1]; simp only [txt, List.cons_append, List.append_assoc, List.nil_append], by simp only [Tr.wf, i2, Bool.and_true, decide_eq_true_eq]; omega⟩
    split at h
    · rename_i hc; subst hc
      obtain ⟨⟨a, l1⟩, e1, h⟩ := Option.bind_eq_some_iff.mp h
      obtain ⟨⟨b, l2⟩, e2, h⟩ := Option.bind_eq_some_iff.mp h
      obtain ⟨i1, i2⟩ := lrd_txt e1
      obtain ⟨j1, j2⟩ := lrd_txt e2
      cases l1 with
      | nil => cases h
      | cons s l1 =>
        have jj : l1 = txt b ++ l2 := j1
        clear j1
        have whn : (if s = 63 then (expO 58 l2).bind fun r2 => (lrd d r2).bind fun q3 => (expO 41 q3.2).map fun r3 => (Tr.whn a b q3.1, r3) else none) = some (t, r) → 40 :: l = txt t ++ r ∧ t.wf = true := by
          intro h
          split at h
          · rename_i hs; subst hs
            obtain ⟨l3, e3, h⟩ := Option.bind_eq_some_iff.mp h
            obtain ⟨⟨c, l4⟩, e4, h⟩ := Option.bind_eq_some_iff.mp h
            obtain ⟨l5, e5, h⟩ := Option.map_eq_some_iff.mp h
            cases h
            have e3 := expO_some e3
            have e5 := expO_some e5
            obtain ⟨k1, k2⟩ := lrd_txt e4
            dsimp only at e5
            subst e3 e5
            rw [jj, k1] at i1
            exact ⟨by rw [i1]; simp only [txt, List.cons_append, List.append_assoc, List.nil_append], by simp only [Tr.wf, i2, j2, k2, Bool.and_true]⟩
          · cases h
        have h : (match opOf s, expO 41 l2 with
          | some o, some r2 => some (Tr.bin o a b, r2)
          | _, _ => if s = 63 then (expO 58 l2).bind fun r2 => (lrd d r2).bind fun q3 => (expO 41 q3.2).map fun r3 => (Tr.whn a b q3.1, r3) else none) = some (t, r) := h
        cases eo : opOf s with
        | none => rw [eo] at h; exact whn h
        | some o =>
          cases e4 : expO 41 l2 with
          | none => rw [eo, e4] at h; exact whn h
          | some r2 =>
            rw [eo, e4] at h
            cases h
            have e4 := expO_some e4
            subst e4
            rw [opOf_some eo, jj] at i1
            exact ⟨by rw [i1]; simp only [txt, List.cons_append, List.append_assoc, List.nil_append], by simp only [Tr.wf, i2, j2, Bool.and_true]⟩
    · cases h
/-- what is written so is read -/
theorem lrd_of : ∀ {t : Tr} {d : Nat} (r : List Nat), t.wf = true → t.depth ≤ d → lrd d (txt t ++ r) = some (t, r)
  | t, 0, r, _, hd => absurd (Nat.le_trans (Tr.depth_pos t) hd) (by decide)
  | .num n, d + 1, r, hw, _ => by
    simp only [Tr.wf, decide_eq_true_eq] at hw
    simp only [txt, List.cons_append, List.nil_append, lrd]
    rw [if_pos (by omega), show 48 + n - 48 = n by omega]
  | .given, d + 1, r, _, _ => rfl
  | .setting, d + 1, r, _, _ => rfl
  | .col n, d + 1, r, hw, _ => by
    simp only [Tr.wf, decide_eq_true_eq] at hw
    have h1 : 48 ≤ 48 + n ∧ 48 + n ≤ 48 + 1 := by omega
    simp only [txt, List.cons_append, List.nil_append, lrd, digO, if_pos h1, show 48 + n - 48 = n by omega]
    rfl
  | .kept n, d + 1, r, hw, _ => by
    simp only [Tr.wf, decide_eq_true_eq] at hw
    have h1 : 48 ≤ 48 + n ∧ 48 + n ≤ 48 + 1 := by omega
    simp only [txt, List.cons_append, List.nil_append, lrd, digO, if_pos h1, show 48 + n - 48 = n by omega]
    rfl
  | .call n a, d + 1, r, hw, hd => by
    simp only [Tr.wf, Bool.and_eq_true, decide_eq_true_eq] at hw
    simp only [Tr.depth] at hd
    have h1 : 48 ≤ 48 + n ∧ 48 + n ≤ 48 + 2 := by omega
    have ih := lrd_of (t := a) (d := d) (41 :: r) hw.2 (by omega)
    simp only [txt, List.cons_append, List.append_assoc, List.nil_append, lrd, digO, if_pos h1, show 48 + n - 48 = n by omega]
    simp [expO, ih]
  | .bin o a b, d + 1, r, hw, hd => by
    simp only [Tr.wf, Bool.and_eq_true] at hw
    simp only [Tr.depth] at hd
    have i1 := lrd_of (t := a) (d := d) (opC o :: (txt b ++ 41 :: r)) hw.1 (by omega)
    have i2 := lrd_of (t := b) (d := d) (41 :: r) hw.2 (by omega)
    simp only [txt, List.cons_append, List.append_assoc, List.nil_append, lrd]
    simp [expO, i1, i2, opOf_opC]
  | .whn t a b, d + 1, r, hw, hd => by
    simp only [Tr.wf, Bool.and_eq_true] at hw
    simp only [Tr.depth] at hd
    have i0 := lrd_of (t := t) (d := d) (63 :: (txt a ++ 58 :: (txt b ++ 41 :: r))) hw.1 (by omega)
    have i1 := lrd_of (t := a) (d := d) (58 :: (txt b ++ 41 :: r)) hw.2.1 (by omega)
    have i2 := lrd_of (t := b) (d := d) (41 :: r) hw.2.2 (by omega)
    simp only [txt, List.cons_append, List.append_assoc, List.nil_append, lrd]
    simp [expO, i0, i1, i2, opOf]
/-- the two readers know the same trees -/
theorem tree_lrd {n : Nat} {l : List Nat} (hn : l.length ≤ n) : treeOf l = match lrd (n + 1) l with
    | some (t, []) => if t.size ≤ 12 then some t else none
    | _ => none := by
  have hl : ∀ t : Tr, t.size ≤ (txt t).length := fun t => by
    induction t with
    | call n a ih => simp only [txt, Tr.size, List.length_cons, List.length_append, List.length_nil]; omega
    | bin o a b i1 i2 => simp only [txt, Tr.size, List.length_cons, List.length_append, List.length_nil]; omega
    | whn t a b i1 i2 i3 => simp only [txt, Tr.size, List.length_cons, List.length_append, List.length_nil]; omega
    | _ => simp [txt, Tr.size]
  have up : ∀ t r, prD 12 l = some (t, r) → lrd (n + 1) l = some (t, r) := fun t r e => by
    obtain ⟨h1, h2, h3⟩ := prD_txt e
    have h4 := hl t
    have h5 := t.depth_le
    have h6 : (txt t).length ≤ l.length := by rw [h1, List.length_append]; omega
    rw [h1]
    exact lrd_of r h2 (by omega)
  have dn : ∀ t r, lrd (n + 1) l = some (t, r) → t.size ≤ 12 → prD 12 l = some (t, r) := fun t r e h => by
    obtain ⟨h1, h2⟩ := lrd_txt e
    rw [h1]
    exact prD_of r h2 (Nat.le_trans t.depth_le h)
  unfold treeOf
  cases e2 : prD 12 l with
  | some q =>
    obtain ⟨t, r⟩ := q
    rw [up t r e2]
    all_goals (cases r <;> rfl)
  | none =>
    cases e : lrd (n + 1) l with
    | none => rfl
    | some q =>
      obtain ⟨t, r⟩ := q
      cases r with
      | cons _ _ => rfl
      | nil =>
        show none = if t.size ≤ 12 then some t else none
        rw [if_neg fun h => by
          have := dn t [] e h
          rw [e2] at this
          cases this]
end Km
set_option Elab.async false
set_option linter.all false
set_option maxRecDepth 100000
set_option maxHeartbeats 4000000
/-! words of a spoilt text are no too great trees, plain -/
namespace Km
theorem txt_len2 (t : Tr) : 2 * t.size ≤ (txt t).length + 1 := by
  induction t with
  | call n a ih => simp only [txt, Tr.size, List.length_cons, List.length_append, List.length_nil]; omega
  | bin o a b i1 i2 => simp only [txt, Tr.size, List.length_cons, List.length_append, List.length_nil]; omega
  | whn t a b i1 i2 i3 => simp only [txt, Tr.size, List.length_cons, List.length_append, List.length_nil]; omega
  | _ => simp [txt, Tr.size]
theorem GoodW.short {l : List Nat} (h : l.length ≤ 24) : GoodW l := fun t e => by
  obtain ⟨h1, _, _⟩ := prD_txt e
  have := txt_len2 t
  rw [h1, List.append_nil] at h
  omega
/-- behind x no full tree: x, then more -/
def Pre (x : List Nat) : Prop := ∀ z, z ≠ [] → ∀ t, prD 12 (x ++ z) ≠ some (t, [])
theorem Pre.tree {t : Tr} (hw : t.wf = true) (hs : t.size ≤ 12) : Pre (txt t) := fun z hz t' e => by
  rw [prD_of z hw (Nat.le_trans t.depth_le hs)] at e
  cases e
  exact hz rfl
theorem Pre.good {x z : List Nat} (h : Pre x) (hz : z ≠ []) : GoodW (x ++ z) := fun t e => absurd e (h z hz t)
/-- two signs that begin no tree -/
theorem Pre.two {a b : Nat} {x : List Nat} (h : ∀ r, prD 12 (a :: b :: r) = none) : Pre (a :: b :: x) := fun z _ t e => by
  rw [show a :: b :: x ++ z = a :: b :: (x ++ z) from rfl, h] at e
  cases e
theorem Pre.one {a : Nat} {x : List Nat} (h : ∀ r, prD 12 (a :: r) = none) : Pre (a :: x) := fun z _ t e => by
  rw [show a :: x ++ z = a :: (x ++ z) from rfl, h] at e
  cases e
/-! ### cutting by a test -/
def cutP (f : Nat → Bool) : List Nat → List (List Nat)
  | [] => [[]]
  | x :: r => if f x = true then [] :: cutP f r else match cutP f r with
    | [] => [[x]]
    | p :: ps => (x :: p) :: ps
theorem cutP_ne (f : Nat → Bool) : ∀ l, cutP f l ≠ []
  | [] => by simp [cutP]
  | x :: r => by
    unfold cutP
    split
    · simp
    · split <;> simp
theorem cut_cutP (c : Nat) : ∀ l, cut c l = cutP (fun x => decide (x = c)) l
  | [] => rfl
  | x :: r => by
    rw [cut, cutP, cut_cutP c r]
    by_cases h : x = c
    · rw [if_pos h, if_pos (decide_eq_true h)]
    · rw [if_neg h, if_neg (by rw [decide_eq_false h]; decide)]
      all_goals (cases cutP (fun x => decide (x = c)) r <;> rfl)
theorem cutP_app (f : Nat → Bool) (q : List Nat) : ∀ p, ∃ P u v Q, cutP f p = P ++ [u] ∧ cutP f q = v :: Q ∧ cutP f (p ++ q) = P ++ (u ++ v) :: Q
  | [] => by
    cases e : cutP f q with
    | nil => exact absurd e (cutP_ne f q)
    | cons v Q => exact ⟨[], [], v, Q, rfl, rfl, by simpa using e⟩
  | a :: p => by
    obtain ⟨P, u, v, Q, h1, h2, h3⟩ := cutP_app f q p
    by_cases ha : f a = true
    · refine ⟨[] :: P, u, v, Q, ?_, h2, ?_⟩
      · rw [cutP, if_pos ha, h1]; rfl
      · rw [List.cons_append, cutP, if_pos ha, h3]; rfl
    · cases P with
      | nil =>
        refine ⟨[], a :: u, v, Q, ?_, h2, ?_⟩
        · rw [cutP, if_neg ha, h1]; rfl
        · rw [List.cons_append, cutP, if_neg ha, h3]; rfl
      | cons p0 P =>
        refine ⟨(a :: p0) :: P, u, v, Q, ?_, h2, ?_⟩
        · rw [cutP, if_neg ha, h1]; rfl
        · rw [List.cons_append, cutP, if_neg ha, h3]; rfl
theorem cutP_word {f : Nat → Bool} {s : Nat} (hs : f s = true) (r : List Nat) : ∀ {w : List Nat}, (∀ c ∈ w, f c = false) → cutP f (w ++ s :: r) = w :: cutP f r
  | [], _ => by rw [List.nil_append, cutP, if_pos hs]
  | a :: w, h => by
    have ih := cutP_word hs r (w := w) fun c hc => h c (List.mem_cons_of_mem _ hc)
    rw [List.cons_append, cutP, if_neg (by rw [h a (List.mem_cons_self ..)]; decide), ih]
/-- the signs between words -/
def sepB (c : Nat) : Bool := decide (c = 32) || decide (c = 10)
theorem cutS_join {ws : List (List Nat)} (r : List Nat) (hn : ws ≠ []) (h : ∀ w ∈ ws, ∀ c ∈ w, sepB c = false) : cutP sepB (TL.joinL [32] ws ++ 10 :: r) = ws ++ cutP sepB r := by
  induction ws with
  | nil => exact absurd rfl hn
  | cons w ws ih =>
    cases ws with
    | nil => exact cutP_word rfl r (h w (List.mem_cons_self ..))
    | cons w2 ws =>
      have := ih (by simp) fun x hx => h x (List.mem_cons_of_mem _ hx)
      show cutP sepB (w ++ ([32] ++ TL.joinL [32] (w2 :: ws)) ++ 10 :: r) = _
      rw [List.append_assoc, List.append_assoc, List.singleton_append, cutP_word rfl _ (h w (List.mem_cons_self ..)), this]
      rfl
/-- a written word, or none -/
def Ow (x : List Nat) : Prop := x.length ≤ 22 ∧ (x ≠ [] → Pre x)
theorem Ow.good {x : List Nat} (h : Ow x) : GoodW x := GoodW.short (Nat.le_trans h.1 (by decide))
theorem Ow.app {u z : List Nat} (h : Ow u) (hz : z.length ≤ 24) : GoodW (u ++ z) := by
  by_cases h1 : z = []
  · rw [h1, List.append_nil]
    exact h.good
  · by_cases h2 : u = []
    · rw [h2]
      exact GoodW.short hz
    · exact (h.2 h2).good h1
/-- cutting where one sign stands -/
theorem cutP_one (f : Nat → Bool) (c : Nat) (p q : List Nat) : ∃ P u v Q, cutP f p = P ++ [u] ∧ cutP f q = v :: Q ∧ cutP f (p ++ q) = P ++ (u ++ v) :: Q ∧ cutP f (p ++ c :: q) = if f c = true then P ++ u :: v :: Q else P ++ (u ++ c :: v) :: Q := by
  obtain ⟨P, u, v, Q, h1, h2, h3⟩ := cutP_app f q p
  obtain ⟨P', u', v', Q', g1, g2, g3⟩ := cutP_app f (c :: q) p
  obtain ⟨e1, e2⟩ := List.append_inj' (g1.symm.trans h1) rfl
  cases e2
  subst e1
  refine ⟨P', u, v, Q, h1, h2, h3, ?_⟩
  rw [g3]
  rw [cutP, h2] at g2
  by_cases hc : f c = true
  · rw [if_pos hc] at g2 ⊢
    cases g2
    rw [List.append_nil]
  · rw [if_neg hc] at g2 ⊢
    cases g2
    rfl
/-- a sign out, or another in its place -/
theorem fit_out {p q : List Nat} {c : Nat} (h : ∀ x ∈ cutP sepB (p ++ c :: q), Ow x) : (∀ x ∈ cutP sepB (p ++ q), GoodW x) ∧ ∀ d, ∀ x ∈ cutP sepB (p ++ d :: q), GoodW x := by
  obtain ⟨P, u, v, Q, h1, h2, h3, h4⟩ := cutP_one sepB c p q
  rw [h4] at h
  have hP : ∀ x ∈ P, GoodW x := fun x hx => (h x (by split <;> exact List.mem_append_left _ hx)).good
  have hQ : ∀ x ∈ Q, GoodW x := fun x hx => (h x (by split <;> simp [hx])).good
  have huv : GoodW (u ++ v) ∧ (∀ d, GoodW (u ++ d :: v)) ∧ GoodW u ∧ GoodW v := by
    by_cases hc : sepB c = true
    · rw [if_pos hc] at h
      have hu := h u (by simp)
      have hv := h v (by simp)
      refine ⟨hu.app (Nat.le_trans hv.1 (by decide)), fun d => hu.app ?_, hu.good, hv.good⟩
      have := hv.1
      simp only [List.length_cons]
      omega
    · rw [if_neg hc] at h
      have hu := (h (u ++ c :: v) (by simp)).1
      simp only [List.length_append, List.length_cons] at hu
      refine ⟨GoodW.short ?_, fun d => GoodW.short ?_, GoodW.short ?_, GoodW.short ?_⟩ <;> (try simp only [List.length_append, List.length_cons]) <;> omega
  refine ⟨fun x hx => ?_, fun d x hx => ?_⟩
  · rw [h3] at hx
    rcases List.mem_append.mp hx with hx | hx
    · exact hP x hx
    · rcases List.mem_cons.mp hx with rfl | hx
      · exact huv.1
      · exact hQ x hx
  · obtain ⟨P', u', v', Q', g1, g2, _, g4⟩ := cutP_one sepB d p q
    obtain ⟨e1, e2⟩ := List.append_inj' (g1.symm.trans h1) rfl
    cases e2
    subst e1
    rw [h2] at g2
    cases g2
    rw [g4] at hx
    split at hx
    · rcases List.mem_append.mp hx with hx | hx
      · exact hP x hx
      · rcases List.mem_cons.mp hx with rfl | hx
        · exact huv.2.2.1
        · rcases List.mem_cons.mp hx with rfl | hx
          · exact huv.2.2.2
          · exact hQ x hx
    · rcases List.mem_append.mp hx with hx | hx
      · exact hP x hx
      · rcases List.mem_cons.mp hx with rfl | hx
        · exact huv.2.1 d
        · exact hQ x hx
/-- a sign in; a text cut off -/
theorem fit_in {p q : List Nat} (h : ∀ x ∈ cutP sepB (p ++ q), Ow x) : (∀ d, ∀ x ∈ cutP sepB (p ++ d :: q), GoodW x) ∧ ∀ x ∈ cutP sepB p, GoodW x := by
  obtain ⟨P, u, v, Q, h1, h2, h3⟩ := cutP_app sepB q p
  rw [h3] at h
  have hP : ∀ x ∈ P, GoodW x := fun x hx => (h x (List.mem_append_left _ hx)).good
  have hQ : ∀ x ∈ Q, GoodW x := fun x hx => (h x (by simp [hx])).good
  have hu := (h (u ++ v) (by simp)).1
  simp only [List.length_append] at hu
  refine ⟨fun d x hx => ?_, fun x hx => ?_⟩
  · obtain ⟨P', u', v', Q', g1, g2, _, g4⟩ := cutP_one sepB d p q
    obtain ⟨e1, e2⟩ := List.append_inj' (g1.symm.trans h1) rfl
    cases e2
    subst e1
    rw [h2] at g2
    cases g2
    rw [g4] at hx
    split at hx
    · rcases List.mem_append.mp hx with hx | hx
      · exact hP x hx
      · rcases List.mem_cons.mp hx with rfl | hx
        · exact GoodW.short (by omega)
        · rcases List.mem_cons.mp hx with rfl | hx
          · exact GoodW.short (by omega)
          · exact hQ x hx
    · rcases List.mem_append.mp hx with hx | hx
      · exact hP x hx
      · rcases List.mem_cons.mp hx with rfl | hx
        · exact GoodW.short (by simp only [List.length_append, List.length_cons]; omega)
        · exact hQ x hx
  · rw [h1] at hx
    rcases List.mem_append.mp hx with hx | hx
    · exact hP x hx
    · rw [List.mem_singleton.mp hx]
      exact GoodW.short (by omega)
/-- cutting where two signs stand -/
theorem cutP_two (f : Nat → Bool) (c d : Nat) {p q : List Nat} {P Q : List (List Nat)} {u v : List Nat} (h1 : cutP f p = P ++ [u]) (h2 : cutP f q = v :: Q) :
    cutP f (p ++ c :: d :: q) = P ++ (if f c = true then (if f d = true then u :: [] :: v :: Q else u :: (d :: v) :: Q) else (if f d = true then (u ++ [c]) :: v :: Q else (u ++ c :: d :: v) :: Q)) := by
  obtain ⟨P', u', v', Q', g1, g2, g3⟩ := cutP_app f (c :: d :: q) p
  obtain ⟨e1, e2⟩ := List.append_inj' (g1.symm.trans h1) rfl
  cases e2
  subst e1
  rw [g3]
  rw [cutP, cutP, h2] at g2
  by_cases hc : f c = true
  · by_cases hd : f d = true
    · rw [if_pos hc, if_pos hd] at g2 ⊢
      cases g2
      rw [List.append_nil]
    · rw [if_pos hc, if_neg hd] at g2 ⊢
      cases g2
      rw [List.append_nil]
  · by_cases hd : f d = true
    · rw [if_neg hc, if_pos hd] at g2 ⊢
      cases g2
      rfl
    · rw [if_neg hc, if_neg hd] at g2 ⊢
      cases g2
      rfl
/-- two signs exchanged -/
theorem fit_swap {p q : List Nat} {c d : Nat} (h : ∀ x ∈ cutP sepB (p ++ c :: d :: q), Ow x) : ∀ x ∈ cutP sepB (p ++ d :: c :: q), GoodW x := by
  obtain ⟨P, u, v, Q, h1, h2, _⟩ := cutP_app sepB q p
  rw [cutP_two sepB c d h1 h2] at h
  rw [cutP_two sepB d c h1 h2]
  have hP : ∀ x ∈ P, GoodW x := fun x hx => (h x (List.mem_append_left _ hx)).good
  have hQ : ∀ x ∈ Q, GoodW x := fun x hx => (h x (List.mem_append_right _ (by split <;> split <;> simp [hx]))).good
  intro x hx
  rcases List.mem_append.mp hx with hx | hx
  · exact hP x hx
  have h := fun y hy => h y (List.mem_append_right _ hy)
  by_cases hc : sepB c = true <;> by_cases hd : sepB d = true
  · simp only [hc, hd, if_true] at h hx
    rcases List.mem_cons.mp hx with rfl | hx
    · exact (h _ (by simp)).good
    · rcases List.mem_cons.mp hx with rfl | hx
      · exact (h _ (by simp)).good
      · rcases List.mem_cons.mp hx with rfl | hx
        · exact (h _ (by simp)).good
        · exact hQ x hx
  · simp only [hc, hd, if_true, if_false, Bool.false_eq_true] at h hx
    have g1 := h u (by simp)
    have g2 := (h (d :: v) (by simp)).1
    simp only [List.length_cons] at g2
    rcases List.mem_cons.mp hx with rfl | hx
    · exact g1.app (by simp)
    · rcases List.mem_cons.mp hx with rfl | hx
      · exact GoodW.short (by omega)
      · exact hQ x hx
  · simp only [hc, hd, if_true, if_false, Bool.false_eq_true] at h hx
    have g1 := (h (u ++ [c]) (by simp)).1
    have g2 := (h v (by simp)).1
    simp only [List.length_append, List.length_cons, List.length_nil] at g1
    rcases List.mem_cons.mp hx with rfl | hx
    · exact GoodW.short (by omega)
    · rcases List.mem_cons.mp hx with rfl | hx
      · exact GoodW.short (by simp only [List.length_cons]; omega)
      · exact hQ x hx
  · simp only [hc, hd, if_false, Bool.false_eq_true] at h hx
    have g1 := (h (u ++ c :: d :: v) (by simp)).1
    simp only [List.length_append, List.length_cons] at g1
    rcases List.mem_cons.mp hx with rfl | hx
    · exact GoodW.short (by simp only [List.length_append, List.length_cons]; omega)
    · exact hQ x hx
end Km
set_option Elab.async false
set_option linter.all false
set_option maxRecDepth 100000
set_option maxHeartbeats 4000000
/-! the law's reader, walked -/
namespace Km
open PySem PySem.Spec PyProof.Rows L2
theorem inGS (c : Nat) : inV (.str (SX.S [c])) [.str "g", .str "s"] = (decide (c = 103) || decide (c = 115)) := by
  show (("g" : Str) == SX.S [c] || (("s" : Str) == SX.S [c] || false)) = _
  rw [show ("g" : Str) = SX.S [103] from by decide +kernel, show ("s" : Str) = SX.S [115] from by decide +kernel, SX.S_beq_eq, SX.S_beq_eq, Bool.or_false]
  simp only [List.cons.injEq, and_true, eq_comm]
theorem inCKF (c : Nat) : inV (.str (SX.S [c])) [.str "c", .str "k", .str "f"] = (decide (c = 99) || (decide (c = 107) || decide (c = 102))) := by
  show (("c" : Str) == SX.S [c] || (("k" : Str) == SX.S [c] || (("f" : Str) == SX.S [c] || false))) = _
  rw [show ("c" : Str) = SX.S [99] from by decide +kernel, show ("k" : Str) = SX.S [107] from by decide +kernel, show ("f" : Str) = SX.S [102] from by decide +kernel, SX.S_beq_eq, SX.S_beq_eq, SX.S_beq_eq, Bool.or_false]
  simp only [List.cons.injEq, and_true, eq_comm]
theorem inOps (c : Nat) : inV (.str (SX.S [c])) [.str "+", .str "-", .str "*", .str "="] = (opOf c).isSome := by
  show (("+" : Str) == SX.S [c] || (("-" : Str) == SX.S [c] || (("*" : Str) == SX.S [c] || (("=" : Str) == SX.S [c] || false)))) = _
  rw [show ("+" : Str) = SX.S [43] from by decide +kernel, show ("-" : Str) = SX.S [45] from by decide +kernel, show ("*" : Str) = SX.S [42] from by decide +kernel, show ("=" : Str) = SX.S [61] from by decide +kernel, SX.S_beq_eq, SX.S_beq_eq, SX.S_beq_eq, SX.S_beq_eq, Bool.or_false]
  simp only [List.cons.injEq, and_true]
  unfold opOf
  by_cases h1 : c = 43
  · subst h1; rfl
  by_cases h2 : c = 45
  · subst h2; rfl
  by_cases h3 : c = 42
  · subst h3; rfl
  by_cases h4 : c = 61
  · subst h4; rfl
  rw [if_neg h1, if_neg h2, if_neg h3, if_neg h4, decide_eq_false (fun e => h1 e.symm), decide_eq_false (fun e => h2 e.symm), decide_eq_false (fun e => h3 e.symm), decide_eq_false (fun e => h4 e.symm)]
  rfl
theorem cut1a (l : List Nat) (i : Nat) {x y : Int} (hx : x = (i : Int)) (hy : y = (i : Int) + 1) : cutS (SX.S l) (some x) (some y) = SX.S ((l.drop i).take 1) := by
  rw [hx, hy, cut1]
section
variable {P : Program} {w : World} {K : PySem.W.Frag} {mg : Str → Option Value} {base : Heap}
theorem scLR : FnScope ["text", "at", "sign", "number", "inner", "one", "other", "word", "end", "last"] ["text", "at"] (defScope (top 70)) := ⟨rfl, rfl, rfl, by decide +kernel, rfl, by decide +kernel, by decide +kernel⟩
def spLR (n : Nat) : Sp := fun vs H Q _ => ∃ (l : List Nat) (i : Nat), vs = [.str (SX.S l), .int (i : Int)] ∧ l.length ≤ 200 ∧ i ≤ l.length + 1 ∧ l.length + 1 < i + n ∧ (lrd n (l.drop i) = none → ∀ H', Same H H' → Q .non H') ∧
  (∀ t r, lrd n (l.drop i) = some (t, r) → ∀ a tv (j : Nat) H', Same H H' → H' a = some (.tup [tv, .int (j : Int)]) → TreeAt H' t tv → l.drop j = r → j ≤ l.length → i < j → Q (.ref a) H')
theorem ok_lrS (T : Lw P K mg w) {n : Nat} (ih : CalX CX0 P w K mg base (n + 1) "_law_read" (spLR n)) : CalX CX0 P w K mg base (n + 2) "_law_read" (spLR (n + 1)) := by
  refine cal_of T.dRead scLR (fun _ _ _ _ _ _ us hl => match us, hl with | [_, _], _ => rfl) (fun vs H Q E ⟨l, i, e, _⟩ => by rw [e]; rfl) ?_
  rintro f cdv A outer s H vs Q E hr ⟨l, i, rfl, hl, hi, hn, k1, k2⟩
  have nd := scLR.nd
  have B := T.t.r.f.B
  have hu1 : ∀ {n : Nat}, n + 64 < cLine → n + 1 < cLine := fun h => by omega
  refine ⟨_, pss_cons (ps_set (i := 2) nd rfl (Or.inl rfl) (pe_slice sl_str (pv 0) (po_some (pv 1)) (po_some (pe_op op_add (pv 1) pe_int))))
    (pss_cons (ps_if (pt_cmpR op_in_seq (pv 2) (pe_tup (pa_cons pe_str (pa_cons pe_str (pa_cons pe_str pa_nil)))) (by rfl)) (pss_one (ps_ret (pe_tup (pa_cons (pe_tup (pa_cons pe_str (pa_cons (pe_callTy call_int_str (by rfl) B.int_ (by decide +kernel) (pa_cons (pv 2) pa_nil)) pa_nil))) (pa_cons (pe_op op_add (pv 1) pe_int) pa_nil))))) pss_nil)
    (pss_cons (ps_if (pt_cmpR op_in_seq (pv 2) (pe_tup (pa_cons pe_str (pa_cons pe_str pa_nil))) (by rfl)) (pss_one (ps_ret (pe_tup (pa_cons (pe_ifExp (pt_cmpR op_eq (pv 2) pe_str (nomark _)) (pe_tup (pa_cons pe_str pa_nil)) (pe_tup (pa_cons pe_str pa_nil))) (pa_cons (pe_op op_add (pv 1) pe_int) pa_nil))))) pss_nil)
    (pss_cons (ps_if (pt_cmpR op_in_seq (pv 2) (pe_tup (pa_cons pe_str (pa_cons pe_str (pa_cons pe_str pa_nil)))) (by rfl))
      (pss_cons (ps_set (i := 3) nd rfl (Or.inl rfl) (pe_slice sl_str (pv 0) (po_some (pe_op op_add (pv 1) pe_int)) (po_some (pe_op op_add (pv 1) pe_int))))
      (pss_cons (ps_if (PW.pt (pw_or (pt_cmpR op_notIn_seq (pv 3) (pe_tup (pa_cons pe_str (pa_cons pe_str (pa_cons pe_str pa_nil)))) (by rfl)) (pw_or1 (PW.pt (pw_and (pt_cmpR op_ne (pv 2) pe_str (nomark _)) (pw_and1 (pt_cmpR op_eq (pv 3) pe_str (nomark _)))))))) (pss_one (ps_ret pe_non)) pss_nil)
      (pss_cons (ps_if (pt_cmpR op_ne (pv 2) pe_str (nomark _)) (pss_one (ps_ret (pe_tup (pa_cons (pe_tup (pa_cons (pe_ifExp (pt_cmpR op_eq (pv 2) pe_str (nomark _)) pe_str pe_str) (pa_cons (pe_callTy call_int_str (by rfl) B.int_ (by decide +kernel) (pa_cons (pv 3) pa_nil)) pa_nil))) (pa_cons (pe_op op_add (pv 1) pe_int) pa_nil))))) pss_nil)
      (pss_cons (ps_set (i := 4) nd rfl (Or.inl rfl) (pe_ifExp (pt_cmpR op_eq (pe_slice sl_str (pv 0) (po_some (pe_op op_add (pv 1) pe_int)) (po_some (pe_op op_add (pv 1) pe_int))) pe_str (nomark _)) (pe_cx ih hr pass0 (by rfl) (pa_cons (pv 0) (pa_cons (pe_op op_add (pv 1) pe_int) pa_nil)) (Nat.le_refl _)) pe_non))
      (pss_cons (ps_if (PW.pt (pw_or (pt_cmpR op_isN1 (pv 4) pe_non (nomark _)) (pw_or1 (pt_cmpR op_ne (pe_slice sl_str (pv 0) (po_some (pe_ix ix_tup (pv 4) pe_int (fun _ _ => rfl))) (po_some (pe_op op_add (pe_ix ix_tup (pv 4) pe_int (fun _ _ => rfl)) pe_int))) pe_str (nomark _))))) (pss_one (ps_ret pe_non)) pss_nil)
      (pss_one (ps_ret (pe_tup (pa_cons (pe_tup (pa_cons pe_str (pa_cons (pe_callTy call_int_str (by rfl) B.int_ (by decide +kernel) (pa_cons (pv 3) pa_nil)) (pa_cons (pe_ix ix_tup (pv 4) pe_int (fun _ _ => rfl)) pa_nil)))) (pa_cons (pe_op op_add (pe_ix ix_tup (pv 4) pe_int (fun _ _ => rfl)) pe_int) pa_nil)))))))))) pss_nil)
    (pss_cons (ps_set (i := 5) nd rfl (Or.inl rfl) (pe_ifExp (pt_cmpR op_eq (pv 2) pe_str (nomark _)) (pe_cx ih hr pass0 (by rfl) (pa_cons (pv 0) (pa_cons (pe_op op_add (pv 1) pe_int) pa_nil)) (Nat.le_refl _)) pe_non))
    (pss_cons (ps_set (i := 6) nd rfl (Or.inl rfl) (pe_ifExp (pt_cmpR op_isN1 (pv 5) pe_non (nomark _)) pe_non (pe_cx ih hr pass0 (by rfl) (pa_cons (pv 0) (pa_cons (pe_op op_add (pe_ix ix_tup (pv 5) pe_int (fun _ _ => rfl)) pe_int) pa_nil)) (Nat.le_refl _))))
    (pss_cons (ps_if (pt_cmpR op_isN1 (pv 6) pe_non (nomark _)) (pss_one (ps_ret pe_non)) pss_nil)
    (pss_cons (ps_par (i := 7) (j := 8) rfl nd rfl rfl (by decide) rfl rfl (pa_cons (pe_ix ix_str (pv 0) (pe_ix ix_tup (pv 5) pe_int (fun _ _ => rfl)) (fun _ _ => rfl)) (pa_cons (pe_slice sl_str (pv 0) (po_some (pe_ix ix_tup (pv 6) pe_int (fun _ _ => rfl))) (po_some (pe_op op_add (pe_ix ix_tup (pv 6) pe_int (fun _ _ => rfl)) pe_int))) pa_nil)) (by rfl))
    (pss_cons (ps_if (PW.pt (pw_and (pt_cmpR op_in_seq (pv 7) (pe_tup (pa_cons pe_str (pa_cons pe_str (pa_cons pe_str (pa_cons pe_str pa_nil))))) (by rfl)) (pw_and1 (pt_cmpR op_eq (pv 8) pe_str (nomark _)))))
      (pss_one (ps_ret (pe_tup (pa_cons (pe_tup (pa_cons (pe_dget (hu1 hr.units) (pe_disp (pps_cons pe_str pe_str (pps_cons pe_str pe_str (pps_cons pe_str pe_str (pps_cons pe_str pe_str pps_nil)))) rfl rfl (by simp) (by decide)) (pv 7) (fun _ _ => rfl)) (pa_cons (pe_ix ix_tup (pv 5) pe_int (fun _ _ => rfl)) (pa_cons (pe_ix ix_tup (pv 6) pe_int (fun _ _ => rfl)) pa_nil)))) (pa_cons (pe_op op_add (pe_ix ix_tup (pv 6) pe_int (fun _ _ => rfl)) pe_int) pa_nil))))) pss_nil)
    (pss_cons (ps_set (i := 9) nd rfl (Or.inl rfl) (pe_ifExp (PW.pt (pw_and (pt_cmpR op_eq (pv 7) pe_str (nomark _)) (pw_and1 (pt_cmpR op_eq (pv 8) pe_str (nomark _))))) (pe_cx ih hr pass0 (by rfl) (pa_cons (pv 0) (pa_cons (pe_op op_add (pe_ix ix_tup (pv 6) pe_int (fun _ _ => rfl)) pe_int) pa_nil)) (Nat.le_refl _)) pe_non))
    (pss_cons (ps_if (PW.pt (pw_or (pt_cmpR op_isN1 (pv 9) pe_non (nomark _)) (pw_or1 (pt_cmpR op_ne (pe_slice sl_str (pv 0) (po_some (pe_ix ix_tup (pv 9) pe_int (fun _ _ => rfl))) (po_some (pe_op op_add (pe_ix ix_tup (pv 9) pe_int (fun _ _ => rfl)) pe_int))) pe_str (nomark _))))) (pss_one (ps_ret pe_non)) pss_nil)
    (pss_one (ps_ret (pe_tup (pa_cons (pe_tup (pa_cons pe_str (pa_cons (pe_ix ix_tup (pv 5) pe_int (fun _ _ => rfl)) (pa_cons (pe_ix ix_tup (pv 6) pe_int (fun _ _ => rfl)) (pa_cons (pe_ix ix_tup (pv 9) pe_int (fun _ _ => rfl)) pa_nil))))) (pa_cons (pe_op op_add (pe_ix ix_tup (pv 9) pe_int (fun _ _ => rfl)) pe_int) pa_nil))))))))))))))), ?_⟩
  have lsz : ∀ {m : Nat}, m ≤ 10000 → m ≤ sizeLine := fun h => by rw [sizeLine_eq]; omega
  have sz : (SX.S l).length ≤ sizeLine := by rw [SX.S_len]; exact lsz (by omega)
  have L2' : 2 ≤ sizeLine := lsz (by decide)
  have L3' : 3 ≤ sizeLine := lsz (by decide)
  refine ⟨_, rfl, _, rfl, _, rfl, _, rfl, _, _, rfl, rfl, _, rfl, _, rfl, sz, ?_⟩
  rw [cut1]
  refine ⟨_, rfl, L3', fun t1 ht1 => ⟨t1, _, rfl, .inr (.inl (.inl upd_same)), rfl, by decide +kernel, _, rfl, ?_⟩⟩
  have s1 := same_upd (o := .tup [.str "0", .str "1", .str "2"]) ht1
  generalize upd H t1 _ = H1 at s1 ⊢
  cases e : l.drop i with
  | nil =>
    rw [show (([] : List Nat).take 1) = [] from rfl, in012n]
    refine iteF ⟨_, rfl, L2', fun t2 ht2 => ⟨t2, _, rfl, .inr (.inl (.inl upd_same)), rfl, by decide +kernel, _, rfl, ?_⟩⟩
    have s2 := s1.trans (same_upd (o := .tup [.str "g", .str "s"]) ht2)
    generalize upd H1 t2 _ = H2 at s2 ⊢
    rw [show inV (.str (SX.S [])) [.str "g", .str "s"] = false from by decide +kernel]
    refine iteF ⟨_, rfl, L3', fun t3 ht3 => ⟨t3, _, rfl, .inr (.inl (.inl upd_same)), rfl, by decide +kernel, _, rfl, ?_⟩⟩
    have s3 := s2.trans (same_upd (o := .tup [.str "c", .str "k", .str "f"]) ht3)
    generalize upd H2 t3 _ = H3 at s3 ⊢
    rw [show inV (.str (SX.S [])) [.str "c", .str "k", .str "f"] = false from by decide +kernel]
    refine iteF ⟨_, rfl, rfl, _, rfl, ?_⟩
    rw [show decide (V.str (SX.S []) = V.str "(") = false from by decide +kernel]
    refine iteF ⟨_, rfl, rfl, _, rfl, iteT ⟨_, rfl, rfl, _, rfl, iteT (k1 (by rw [e]; rfl) H3 s3)⟩⟩
  | cons c r =>
    obtain ⟨n1, n2⟩ := drop_next e
    rw [e] at k1 k2
    rw [show (c :: r).take 1 = [c] from rfl, in012]
    by_cases h1 : 48 ≤ c ∧ c ≤ 50
    · rw [decide_eq_true h1]
      refine iteT ⟨_, rfl, _, _, rfl, int1 ⟨h1.1, by omega⟩, (by rw [SX.S_len]; show 1 ≤ 640; decide), L2', fun a ha => ⟨_, rfl, _, _, rfl, rfl, L2', fun b hb => ?_⟩⟩
      have v1 := same_upd (o := .tup [.str "number", .int ((c - 48 : Nat) : Int)]) ha
      have v2 := same_upd (o := .tup [.ref a, .int ((i : Int) + 1)]) hb
      exact k2 (.num (c - 48)) r (by simp only [lrd, if_pos h1]) b (.ref a) (i + 1) _ (s1.trans (v1.trans v2)) upd_same ⟨a, rfl, v2 _ _ upd_same⟩ n2 n1 (by omega)
    rw [decide_eq_false h1]
    refine iteF ⟨_, rfl, L2', fun t2 ht2 => ⟨t2, _, rfl, .inr (.inl (.inl upd_same)), rfl, by decide +kernel, _, rfl, ?_⟩⟩
    have s2 := s1.trans (same_upd (o := .tup [.str "g", .str "s"]) ht2)
    generalize upd H1 t2 _ = H2 at s2 ⊢
    rw [inGS]
    have gS : ("g" : Str) = SX.S [103] := by decide +kernel
    have cS : ("c" : Str) = SX.S [99] := by decide +kernel
    have fS : ("f" : Str) = SX.S [102] := by decide +kernel
    have twS : ("2" : Str) = SX.S [50] := by decide +kernel
    have opS : ("(" : Str) = SX.S [40] := by decide +kernel
    have clS : (")" : Str) = SX.S [41] := by decide +kernel
    have quS : ("?" : Str) = SX.S [63] := by decide +kernel
    have coS : (":" : Str) = SX.S [58] := by decide +kernel
    by_cases h2 : c = 103
    · subst h2
      refine iteT ⟨_, rfl, rfl, _, rfl, ?_⟩
      rw [gS, eqS1]
      refine iteT ⟨lsz (by decide), fun a ha => ⟨_, rfl, _, _, rfl, rfl, L2', fun b hb => ?_⟩⟩
      have v1 := same_upd (o := .tup [.str "given"]) ha
      have v2 := same_upd (o := .tup [.ref a, .int ((i : Int) + 1)]) hb
      exact k2 .given r rfl b (.ref a) (i + 1) _ (s2.trans (v1.trans v2)) upd_same ⟨a, rfl, v2 _ _ upd_same⟩ n2 n1 (by omega)
    by_cases h3 : c = 115
    · subst h3
      refine iteT ⟨_, rfl, rfl, _, rfl, ?_⟩
      rw [gS, eqS1]
      refine iteF ⟨lsz (by decide), fun a ha => ⟨_, rfl, _, _, rfl, rfl, L2', fun b hb => ?_⟩⟩
      have v1 := same_upd (o := .tup [.str "setting"]) ha
      have v2 := same_upd (o := .tup [.ref a, .int ((i : Int) + 1)]) hb
      exact k2 .setting r rfl b (.ref a) (i + 1) _ (s2.trans (v1.trans v2)) upd_same ⟨a, rfl, v2 _ _ upd_same⟩ n2 n1 (by omega)
    rw [decide_eq_false h2, decide_eq_false h3]
    refine iteF ⟨_, rfl, L3', fun t3 ht3 => ⟨t3, _, rfl, .inr (.inl (.inl upd_same)), rfl, by decide +kernel, _, rfl, ?_⟩⟩
    have s3 := s2.trans (same_upd (o := .tup [.str "c", .str "k", .str "f"]) ht3)
    generalize upd H2 t3 _ = H3 at s3 ⊢
    rw [inCKF]
    by_cases hck : c = 99 ∨ c = 107 ∨ c = 102
    · rw [show (decide (c = 99) || (decide (c = 107) || decide (c = 102))) = true from by simp [hck]]
      refine iteT ⟨_, rfl, _, rfl, _, _, rfl, rfl, _, rfl, _, rfl, _, _, rfl, rfl, _, rfl, _, rfl, sz, ?_⟩
      rw [show cutS (SX.S l) (some ((i : Int) + 1)) (some ((i : Int) + 2)) = SX.S (r.take 1) from by rw [cut1a l (i + 1) (by omega) (by omega), n2]]
      refine ⟨_, rfl, L3', fun t4 ht4 => ⟨t4, _, rfl, .inr (.inl (.inl upd_same)), rfl, by decide +kernel, _, rfl, ?_⟩⟩
      have s4 := s3.trans (same_upd (o := .tup [.str "0", .str "1", .str "2"]) ht4)
      generalize upd H3 t4 _ = H4 at s4 ⊢
      have bad : ∀ {m : Nat}, digO m r = none → (m = if c = 102 then 2 else 1) → lrd (n + 1) (c :: r) = none := by
        intro m hm em
        rcases hck with rfl | rfl | rfl
        · rw [if_neg (by decide)] at em
          subst em
          simp [lrd, hm]
        · rw [if_neg (by decide)] at em
          subst em
          simp [lrd, hm]
        · rw [if_pos rfl] at em
          subst em
          simp [lrd, hm]
      cases r with
      | nil =>
        rw [show (([] : List Nat).take 1) = [] from rfl, in012n]
        exact iteT (iteT (k1 (bad rfl rfl) H4 s4))
      | cons d r2 =>
        obtain ⟨n3, n4⟩ := drop_next n2
        rw [show (d :: r2).take 1 = [d] from rfl, in012]
        by_cases hd : 48 ≤ d ∧ d ≤ 50
        case neg =>
          rw [decide_eq_false hd]
          obtain ⟨m, em, hm⟩ : ∃ m, m = (if c = 102 then 2 else 1) ∧ m ≤ 2 := ⟨_, rfl, by split <;> decide⟩
          exact iteT (iteT (k1 (bad (by simp only [digO]; rw [if_neg (by omega)]) em) H4 s4))
        rw [decide_eq_true hd]
        refine iteF ⟨_, rfl, rfl, _, rfl, ?_⟩
        rw [fS, eqS1]
        have ed := int1 (c := d) ⟨hd.1, by omega⟩
        have ld : (SX.S [d]).length ≤ 640 := by rw [SX.S_len]; show 1 ≤ 640; decide
        by_cases hc : c = 102
        · subst hc
          refine iteF (iteF ⟨_, rfl, rfl, _, rfl, ?_⟩)
          rw [eqS1]
          have edg : digO 2 (d :: r2) = some (d - 48, r2) := by simp only [digO]; rw [if_pos (by omega)]
          refine iteF ⟨_, rfl, _, rfl, _, _, rfl, rfl, _, rfl, _, rfl, _, _, rfl, rfl, _, rfl, _, rfl, sz, rfl, _, rfl, ?_⟩
          rw [show cutS (SX.S l) (some ((i : Int) + 2)) (some ((i : Int) + 3)) = SX.S (r2.take 1) from by rw [cut1a l (i + 2) (by omega) (by omega), n4], opS]
          have noP : expO 40 r2 = none → Q .non H4 := fun h => k1 (by simp [lrd, edg, h]) H4 s4
          cases r2 with
          | nil =>
            rw [show (([] : List Nat).take 1) = [] from rfl, eqS0]
            exact iteF ⟨_, rfl, rfl, _, rfl, iteT (iteT (noP rfl))⟩
          | cons x r3 =>
            obtain ⟨n5, n6⟩ := drop_next n4
            rw [show (x :: r3).take 1 = [x] from rfl, eqS1]
            by_cases hx : x = 40
            case neg =>
              rw [decide_eq_false hx]
              exact iteF ⟨_, rfl, rfl, _, rfl, iteT (iteT (noP (by simp [expO, hx])))⟩
            subst hx
            refine iteT ⟨_, rfl, _, rfl, _, _, rfl, rfl, l, i + 3, rfl, hl, by omega, by omega, ?_, ?_⟩
            · intro e3 H5 s5
              rw [n6] at e3
              exact ⟨_, rfl, rfl, _, rfl, iteT (iteT (k1 (by simp [lrd, edg, expO, e3]) H5 (s4.trans s5)))⟩
            intro t r4 e3 a tv j H5 s5 ha ht hdj hj hij
            rw [n6] at e3
            have s6 := s4.trans s5
            refine ⟨_, rfl, rfl, _, rfl, iteF ⟨_, rfl, _, rfl, a, _, 1, _, rfl, rfl, .inl (.inl ha), atI_nat (j := 1) rfl, _, rfl, _, rfl, a, _, 1, _, rfl, rfl, .inl (.inl ha), atI_nat (j := 1) rfl, _, _, rfl, rfl, _, rfl, _, rfl, sz, rfl, _, rfl, ?_⟩⟩
            rw [cut1, hdj, clS]
            have noC : expO 41 r4 = none → Q .non H5 := fun h => k1 (by simp [lrd, edg, expO, e3]; exact h) H5 s6
            cases r4 with
            | nil =>
              rw [show (([] : List Nat).take 1) = [] from rfl, eqS0]
              exact iteT (noC rfl)
            | cons y r5 =>
              obtain ⟨n7, n8⟩ := drop_next hdj
              rw [show (y :: r5).take 1 = [y] from rfl, eqS1]
              by_cases hy : y = 41
              case neg =>
                rw [decide_eq_false hy]
                exact iteT (noC (by simp [expO, hy]))
              subst hy
              refine iteF ⟨_, rfl, _, _, rfl, ed, ld, _, rfl, a, _, 0, _, rfl, rfl, .inl (.inl ha), atI_nat (j := 0) rfl, L3', fun b hb => ?_⟩
              have v1 := same_upd (o := .tup [.str "call", .int ((d - 48 : Nat) : Int), tv]) hb
              refine ⟨_, rfl, a, _, 1, _, rfl, rfl, .inl (.inl (v1 _ _ ha)), atI_nat (j := 1) rfl, _, _, rfl, rfl, L2', fun b2 hb2 => ?_⟩
              have v2 := same_upd (o := .tup [.ref b, .int ((j : Int) + 1)]) hb2
              exact k2 (.call (d - 48) t) r5 (by simp [lrd, edg, expO, e3]) b2 (.ref b) (j + 1) _ (s6.trans (v1.trans v2)) upd_same ⟨b, tv, rfl, v2 _ _ upd_same, ht.tups (Same.tups (v1.trans v2))⟩ n8 n7 (by omega)
        · rw [decide_eq_false hc]
          refine iteT ⟨_, rfl, rfl, _, rfl, ?_⟩
          rw [twS, eqS1]
          by_cases h5 : d = 50
          · rw [decide_eq_true h5]
            exact iteT (k1 (bad (m := 1) (by simp [digO, h5]) (by rw [if_neg hc])) H4 s4)
          rw [decide_eq_false h5]
          have edg : digO 1 (d :: r2) = some (d - 48, r2) := by simp only [digO]; rw [if_pos (by omega)]
          refine iteF ⟨_, rfl, rfl, _, rfl, ?_⟩
          rw [eqS1, decide_eq_false hc]
          refine iteT ⟨_, rfl, rfl, _, rfl, ?_⟩
          rw [cS, eqS1]
          have hc2 : c = 99 ∨ c = 107 := by omega
          rcases hc2 with rfl | rfl
          · refine iteT ⟨_, rfl, _, _, rfl, ed, ld, L2', fun a ha => ⟨_, rfl, _, _, rfl, rfl, L2', fun b hb => ?_⟩⟩
            have v1 := same_upd (o := .tup [.str "column", .int ((d - 48 : Nat) : Int)]) ha
            have v2 := same_upd (o := .tup [.ref a, .int ((i : Int) + 2)]) hb
            exact k2 (.col (d - 48)) r2 (by simp [lrd, edg]) b (.ref a) (i + 2) _ (s4.trans (v1.trans v2)) upd_same ⟨a, rfl, v2 _ _ upd_same⟩ n4 n3 (by omega)
          · refine iteF ⟨_, rfl, _, _, rfl, ed, ld, L2', fun a ha => ⟨_, rfl, _, _, rfl, rfl, L2', fun b hb => ?_⟩⟩
            have v1 := same_upd (o := .tup [.str "kept", .int ((d - 48 : Nat) : Int)]) ha
            have v2 := same_upd (o := .tup [.ref a, .int ((i : Int) + 2)]) hb
            exact k2 (.kept (d - 48)) r2 (by simp [lrd, edg]) b (.ref a) (i + 2) _ (s4.trans (v1.trans v2)) upd_same ⟨a, rfl, v2 _ _ upd_same⟩ n4 n3 (by omega)
    · rw [show (decide (c = 99) || (decide (c = 107) || decide (c = 102))) = false from by simpa using hck]
      refine iteF ⟨_, rfl, rfl, _, rfl, ?_⟩
      rw [opS, eqS1]
      by_cases h4 : c = 40
      case neg =>
        rw [decide_eq_false h4]
        exact iteF ⟨_, rfl, rfl, _, rfl, iteT ⟨_, rfl, rfl, _, rfl, iteT (k1 (by
          have a1 : ¬ c = 99 := fun h => hck (.inl h)
          have a2 : ¬ c = 107 := fun h => hck (.inr (.inl h))
          have a3 : ¬ c = 102 := fun h => hck (.inr (.inr h))
          simp only [lrd, if_neg h1, if_neg h2, if_neg h3, if_neg a1, if_neg a2, if_neg a3, if_neg h4]) H3 s3)⟩⟩
      subst h4
      have e0 : lrd (n + 1) (40 :: r) = (lrd n r).bind fun q => (lrd n (q.2.drop 1)).bind fun q2 => match q.2 with
        | [] => none
        | s :: _ => match opOf s, expO 41 q2.2 with
          | some o, some r2 => some (.bin o q.1 q2.1, r2)
          | _, _ => if s = 63 then (expO 58 q2.2).bind fun r2 => (lrd n r2).bind fun q3 => (expO 41 q3.2).map fun r3 => (.whn q.1 q2.1 q3.1, r3) else none := rfl
      refine iteT ⟨_, rfl, _, rfl, _, _, rfl, rfl, l, i + 1, rfl, hl, by omega, by omega, ?_, ?_⟩
      · intro e3 H5 s5
        rw [n2] at e3
        exact ⟨_, rfl, rfl, _, rfl, iteT ⟨_, rfl, rfl, _, rfl, iteT (k1 (by rw [e0, e3]; rfl) H5 (s3.trans s5))⟩⟩
      intro t ra e3 a tv j H5 s5 ha ht hdj hj hij
      rw [n2] at e3
      rw [e3] at e0
      have s6 := s3.trans s5
      have hdj1 : l.drop (j + 1) = ra.drop 1 := by rw [← hdj, List.drop_drop]
      refine ⟨_, rfl, rfl, _, rfl, iteF ⟨_, rfl, _, rfl, a, _, 1, _, rfl, rfl, .inl (.inl ha), atI_nat (j := 1) rfl, _, _, rfl, rfl, l, j + 1, rfl, hl, by omega, by omega, ?_, ?_⟩⟩
      · intro e4 H6 s7
        rw [hdj1] at e4
        exact ⟨_, rfl, rfl, _, rfl, iteT (k1 (by rw [e0]; simp only [Option.bind_some]; rw [e4]; rfl) H6 (s6.trans s7))⟩
      intro t2 rb e4 a2 tv2 j2 H6 s7 ha2 ht2 hdj2 hj2 hij2
      rw [hdj1] at e4
      have s8 := s6.trans s7
      cases ra with
      | nil =>
        exfalso
        cases n with
        | zero => cases e4
        | succ n => cases e4
      | cons sg ra =>
      obtain ⟨n3, n4⟩ := drop_next hdj
      simp only [Option.bind_some, e4] at e0
      have hat : l[j]? = some sg := by
        have := congrArg List.head? hdj
        rwa [List.head?_drop] at this
      have ha6 := s7 _ _ ha
      refine ⟨_, rfl, rfl, _, rfl, iteF ⟨_, rfl, _, rfl, a, _, 1, _, rfl, rfl, .inl (.inl ha6), atI_nat (j := 1) rfl, _, _, sg, rfl, rfl, sz, atI_nat (by simpa [SX.S] using hat), _, rfl, _, rfl, a2, _, 1, _, rfl, rfl, .inl (.inl ha2), atI_nat (j := 1) rfl, _, rfl, _, rfl, a2, _, 1, _, rfl, rfl, .inl (.inl ha2), atI_nat (j := 1) rfl, _, _, rfl, rfl, _, rfl, _, rfl, sz, _, _, rfl, ?_⟩⟩
      rw [cut1, hdj2, clS, quS, coS]
      have ewd : (V.str ⟨#[sg]⟩) = V.str (SX.S [sg]) := rfl
      rw [ewd]
      have t2' := ht.tups (Same.tups s7)
      refine ⟨_, rfl, lsz (by decide), fun t4 ht4 => ⟨t4, _, rfl, .inr (.inl (.inl upd_same)), rfl, by decide +kernel, _, rfl, ?_⟩⟩
      have w4 := same_upd (o := .tup [.str "+", .str "-", .str "*", .str "="]) ht4
      have s9 := s8.trans w4
      have ha7 := w4 _ _ ha6
      have hb7 := w4 _ _ ha2
      have tA := t2'.tups (Same.tups w4)
      have tB := ht2.tups (Same.tups w4)
      generalize upd H6 t4 _ = H7 at s9 ha7 hb7 tA tB ⊢
      clear w4 ha6 ha2 t2' ht2
      rw [inOps]
      by_cases hP : (opOf sg).isSome = true ∧ decide (V.str (SX.S (rb.take 1)) = V.str (SX.S [41])) = true
      · obtain ⟨hp1, hp2⟩ := hP
        obtain ⟨r5, er5⟩ : ∃ r5, rb = 41 :: r5 := by
          cases rb with
          | nil => rw [show (([] : List Nat).take 1) = [] from rfl, eqS0] at hp2; cases hp2
          | cons y r5 =>
            rw [show (y :: r5).take 1 = [y] from rfl, eqS1] at hp2
            exact ⟨r5, by rw [of_decide_eq_true hp2]⟩
        subst er5
        obtain ⟨o, ho⟩ := Option.isSome_iff_exists.mp hp1
        obtain ⟨n5, n6⟩ := drop_next hdj2
        have eo := opOf_some ho
        rw [hp1]
        refine iteT ⟨_, rfl, rfl, _, rfl, ?_⟩
        rw [hp2]
        refine iteT (fun d hd => ⟨upd_same, [(.inr "+", .str "sum"), (.inr "-", .str "less"), (.inr "*", .str "times"), (.inr "=", .str "same")], rfl, (by show 4 ≤ 15; decide), _, rfl, d, .str o.word, rfl, .inl ⟨_, .inr (SX.S [sg]), .inl upd_same, rfl, by rw [eo]; cases o <;> rfl⟩, ?_⟩)
        have q1 : Same H7 (upd (upd H7 d (.dK [])) d (.dK (mergeK [] [(.inr "+", .str "sum"), (.inr "-", .str "less"), (.inr "*", .str "times"), (.inr "=", .str "same")]))) := fun b w e => by
          rw [upd_ne (ne_of_none e hd), upd_ne (ne_of_none e hd)]
          exact e
        generalize upd (upd H7 d (.dK [])) d (.dK (mergeK [] [(.inr "+", .str "sum"), (.inr "-", .str "less"), (.inr "*", .str "times"), (.inr "=", .str "same")])) = H8 at q1
        refine ⟨_, rfl, a, _, 0, _, rfl, rfl, .inl (.inl (q1 _ _ ha7)), atI_nat (j := 0) rfl, _, rfl, a2, _, 0, _, rfl, rfl, .inl (.inl (q1 _ _ hb7)), atI_nat (j := 0) rfl, L3', fun b hb => ?_⟩
        have v1 := same_upd (o := .tup [.str o.word, tv, tv2]) hb
        refine ⟨_, rfl, a2, _, 1, _, rfl, rfl, .inl (.inl (v1 _ _ (q1 _ _ hb7))), atI_nat (j := 1) rfl, _, _, rfl, rfl, L2', fun b2 hb2 => ?_⟩
        have v2 := same_upd (o := .tup [.ref b, .int ((j2 : Int) + 1)]) hb2
        have tq := Same.tups (q1.trans (v1.trans v2))
        exact k2 (.bin o t t2) r5 (by rw [e0, ho]; rfl) b2 (.ref b) (j2 + 1) _ (s9.trans (q1.trans (v1.trans v2))) upd_same ⟨b, tv, tv2, rfl, v2 _ _ upd_same, tA.tups tq, tB.tups tq⟩ n6 n5 (by omega)
      refine iteX (iteF ?skip) (fun ho => ⟨_, rfl, rfl, _, rfl, iteX ?skip (fun he => absurd ⟨ho, he⟩ hP)⟩)
      have e1 : lrd (n + 1) (40 :: r) = if sg = 63 then (expO 58 rb).bind fun r2 => (lrd n r2).bind fun q3 => (expO 41 q3.2).map fun r3 => (.whn t t2 q3.1, r3) else none := by
        rw [e0]
        cases ho : opOf sg with
        | none => rfl
        | some o =>
          cases he : expO 41 rb with
          | none => rfl
          | some r2 =>
            exfalso
            have := expO_some he
            subst this
            exact hP ⟨by rw [ho]; rfl, by rw [show (41 :: r2).take 1 = [41] from rfl, eqS1]; rfl⟩
      refine ⟨_, rfl, rfl, _, rfl, ?_⟩
      rw [eqS1]
      by_cases h63 : sg = 63
      case neg =>
        rw [decide_eq_false h63]
        exact iteF (iteF ⟨_, rfl, rfl, _, rfl, iteT (iteT (k1 (by rw [e1, if_neg h63]) H7 s9))⟩)
      subst h63
      rw [if_pos rfl] at e1
      refine iteT ⟨_, rfl, rfl, _, rfl, ?_⟩
      cases rb with
      | nil =>
        rw [show (([] : List Nat).take 1) = [] from rfl, eqS0]
        exact iteF ⟨_, rfl, rfl, _, rfl, iteT (iteT (k1 (by rw [e1]; rfl) H7 s9))⟩
      | cons y rb =>
      obtain ⟨n5, n6⟩ := drop_next hdj2
      rw [show (y :: rb).take 1 = [y] from rfl, eqS1]
      by_cases h58 : y = 58
      case neg =>
        rw [decide_eq_false h58]
        exact iteF ⟨_, rfl, rfl, _, rfl, iteT (iteT (k1 (by rw [e1]; simp [expO, h58]) H7 s9))⟩
      subst h58
      have e1 : lrd (n + 1) (40 :: r) = (lrd n rb).bind fun q3 => (expO 41 q3.2).map fun r3 => (.whn t t2 q3.1, r3) := e1
      refine iteT ⟨_, rfl, _, rfl, a2, _, 1, _, rfl, rfl, .inl (.inl hb7), atI_nat (j := 1) rfl, _, _, rfl, rfl, l, j2 + 1, rfl, hl, by omega, by omega, ?_, ?_⟩
      · intro e5 H8 s10
        rw [n6] at e5
        exact ⟨_, rfl, rfl, _, rfl, iteT (iteT (k1 (by rw [e1, e5]; rfl) H8 (s9.trans s10)))⟩
      intro t3 rc e5 a3 tv3 j3 H8 s10 ha3 ht3 hdj3 hj3 hij3
      rw [n6] at e5
      rw [e5] at e1
      have e1 : lrd (n + 1) (40 :: r) = (expO 41 rc).map fun r3 => (.whn t t2 t3, r3) := e1
      have s11 := s9.trans s10
      refine ⟨_, rfl, rfl, _, rfl, iteF ⟨_, rfl, _, rfl, a3, _, 1, _, rfl, rfl, .inl (.inl ha3), atI_nat (j := 1) rfl, _, rfl, _, rfl, a3, _, 1, _, rfl, rfl, .inl (.inl ha3), atI_nat (j := 1) rfl, _, _, rfl, rfl, _, rfl, _, rfl, sz, rfl, _, rfl, ?_⟩⟩
      rw [cut1, hdj3]
      cases rc with
      | nil =>
        rw [show (([] : List Nat).take 1) = [] from rfl, eqS0]
        exact iteT (k1 (by rw [e1]; rfl) H8 s11)
      | cons z rc =>
        obtain ⟨n7, n8⟩ := drop_next hdj3
        rw [show (z :: rc).take 1 = [z] from rfl, eqS1]
        by_cases h41 : z = 41
        case neg =>
          rw [decide_eq_false h41]
          exact iteT (k1 (by rw [e1]; simp [expO, h41]) H8 s11)
        subst h41
        have ha8 := s10 _ _ ha7
        have hb8 := s10 _ _ hb7
        refine iteF ⟨_, rfl, a, _, 0, _, rfl, rfl, .inl (.inl ha8), atI_nat (j := 0) rfl, _, rfl, a2, _, 0, _, rfl, rfl, .inl (.inl hb8), atI_nat (j := 0) rfl, _, rfl, a3, _, 0, _, rfl, rfl,   .inl (.inl ha3), atI_nat (j := 0) rfl, (by show 4 ≤ sizeLine; decide), fun b hb => ?_⟩
        have v1 := same_upd (o := .tup [.str "when", tv, tv2, tv3]) hb
        refine ⟨_, rfl, a3, _, 1, _, rfl, rfl, .inl (.inl (v1 _ _ ha3)), atI_nat (j := 1) rfl, _, _, rfl, rfl, L2', fun b2 hb2 => ?_⟩
        have v2 := same_upd (o := .tup [.ref b, .int ((j3 : Int) + 1)]) hb2
        have tq := Same.tups (v1.trans v2)
        exact k2 (.whn t t2 t3) rc e1 b2 (.ref b) (j3 + 1) _ (s11.trans (v1.trans v2)) upd_same ⟨b, tv, tv2, tv3, rfl, v2 _ _ upd_same, (tA.tups (Same.tups s10)).tups tq, (tB.tups (Same.tups s10)).tups tq, ht3.tups tq⟩ n8 n7 (by omega)
theorem ok_lr0 (T : Lw P K mg w) : CalX CX0 P w K mg base 1 "_law_read" (spLR 0) := by
  refine cal_of T.dRead scLR (fun _ _ _ _ _ _ us hl => match us, hl with | [_, _], _ => rfl) (fun vs H Q E ⟨l, i, e, _⟩ => by rw [e]; rfl) ?_
  rintro f cdv A outer s H vs Q E hr ⟨l, i, rfl, hl, hi, hn, k1, k2⟩
  exact ⟨_, pss_never, by omega⟩
theorem ok_lr (T : Lw P K mg w) : ∀ n, CalX CX0 P w K mg base (n + 1) "_law_read" (spLR n)
  | 0 => ok_lr0 T
  | n + 1 => ok_lrS T (ok_lr T n)
end
end Km
set_option Elab.async false
set_option linter.all false
set_option maxRecDepth 100000
set_option maxHeartbeats 4000000
/-! the law's leaves, trees of words, good words -/
namespace Km
open PySem PySem.Spec PyProof.Rows L2
theorem size_txt (t : Tr) : t.size ≤ (txt t).length := by
  have := txt_len2 t
  have := t.size_pos
  omega
section
variable {P : Program} {w : World} {K : PySem.W.Frag} {mg : Str → Option Value} {base : Heap}
/-! ### _law_leaves -/
theorem scLv : FnScope ["tree", "found", "part"] ["tree"] (defScope (top 71)) := ⟨rfl, rfl, rfl, by decide +kernel, rfl, by decide +kernel, by decide +kernel⟩
def spLv (d : Nat) : Sp := fun vs H Q _ => ∃ (v : V) (t : Tr), vs = [v] ∧ TreeAt H t v ∧ t.depth ≤ d ∧ t.size ≤ 1000 ∧ ∀ p H' xs, Same H H' → H p = none → H' p = some (.lst xs) → Paired (TreeAt H') t.parts xs → Q (.ref p) H'
theorem ok_lv (T : Lw P K mg w) : ∀ d, CalX CX0 P w K mg base (1 + d) "_law_leaves" (spLv d)
  | 0 => by
    refine cal_of T.dLeaves scLv (fun _ _ _ _ _ _ us hl => match us, hl with | [_], _ => rfl) (fun vs H Q E ⟨v, t, e, _⟩ => by rw [e]; rfl) ?_
    rintro f cdv A outer s H vs Q E hr ⟨v, t, rfl, _, h, _⟩
    exact absurd (Tr.depth_pos t) (by omega)
  | d + 1 => by
    have IH := ok_lv T d
    refine cal_of T.dLeaves scLv (fun _ _ _ _ _ _ us hl => match us, hl with | [_], _ => rfl) (fun vs H Q E ⟨v, t, e, _⟩ => by rw [e]; rfl) ?_
    rintro f cdv A outer s H vs Q E hr ⟨v, t, rfl, ht, hd, hsz, k⟩
    have B := T.t.r.f.B
    have nd := scLv.nd
    obtain ⟨a, xs, rfl, ha, hl, hx⟩ := ht.row
    refine ⟨_, pss_cons (ps_set (i := 1) nd rfl (Or.inl rfl) (pe_lst (pa_cons (pv 0) pa_nil)))
      (pss_cons (ps_for (passes_of rfl) rfl (pi_tup (pe_slice sl_tup (pv 0) (po_some pe_int) po_none)) (pg_name (i := 2) nd rfl (Or.inl rfl))
        (pss_one (ps_if (pt_val (pe_callB call_isi (by rfl) B.isinstance_ (by decide +kernel) (pa_cons (pv 2) (pa_cons (pe_bltn (by rfl) B.tuple_ (by decide +kernel) (show RelV (.ty "tuple") _ from rfl)) pa_nil))))
          (pss_one (ps_set (i := 1) nd rfl (Or.inl rfl) (pe_op op_cat (pv 1) (pe_cx IH hr pass0 (by rfl) (pa_cons (pv 2) pa_nil) (Nat.le_refl _))))) pss_nil)))
      (pss_one (ps_ret (pv 1)))), ?_⟩
    refine ⟨_, rfl, (by show 1 ≤ sizeLine; decide), fun l hl0 => ?_⟩
    have sl : Same H (upd H l (.lst [.ref a])) := same_upd hl0
    refine ⟨_, rfl, _, rfl, a, _, rfl, .inl (.inl (sl _ _ ha)), not_whole _ _, fun p1 hp1 => ?_⟩
    have s1 : Same H (upd (upd H l (.lst [.ref a])) p1 (.tup (cutV (.str t.word :: xs) (some 1) none))) := sl.trans (same_upd hp1)
    have hlp : l ≠ p1 := fun e => by rw [← e, upd_same] at hp1; cases hp1
    have ecut : cutV (.str t.word :: xs) (some 1) none = xs := by
      rw [show (1 : Int) = ((1 : Nat) : Int) from rfl, cutV_from _ _ (by simp), List.drop_one, List.tail_cons]
    rw [ecut] at s1 ⊢
    have hpos := t.parts_row
    have hszp := t.parts_length
    refine ⟨p1, rfl, ⟨xs, .inl (.inl upd_same)⟩, for_tup (xs := xs) (fun i σ H' => ∃ l1 x1, σ = [some (.ref a), some (.ref l1), x1] ∧ H l1 = none ∧ Same H H' ∧ H' p1 = some (.tup xs) ∧ ∃ ys, H' l1 = some (.lst ys) ∧ Paired (TreeAt H') (t :: (t.row.take i).flatMap fun p => apr p.2) ys)
      ⟨l, _, rfl, hl0, s1, upd_same, [.ref a], by rw [upd_ne hlp, upd_same], .cons (ht.tups (Same.tups s1)) .nil⟩ (fun i σ H' _ ⟨_, _, _, _, _, h, _⟩ => .inl (.inl h)) ?_ ?_⟩
    · rintro i y σ H' hy ⟨l1, x1, rfl, hl1, s2, hp1', ys, hlys, hpd⟩
      have hi : i < t.row.length := by rw [← hl]; exact (List.getElem?_eq_some_iff.mp hy).1
      obtain ⟨p, hp⟩ : ∃ p, t.row[i]? = some p := ⟨t.row[i], List.getElem?_eq_getElem hi⟩
      have hat := (hx i p y hp hy).tups (Same.tups s2)
      have htk : (t.row.take (i + 1)).flatMap (fun p => apr p.2) = (t.row.take i).flatMap (fun p => apr p.2) ++ apr p.2 := by
        rw [List.take_add_one, hp, List.flatMap_append]
        simp
      obtain ⟨c', g⟩ := p
      cases g with
      | inl m =>
        have hat : y = .int (m : Int) := hat
        subst hat
        have htk : (t.row.take (i + 1)).flatMap (fun p => apr p.2) = (t.row.take i).flatMap (fun p => apr p.2) ++ [] := htk
        refine ⟨_, rfl, .int (m : Int), _, _, _, false, rfl, .ty "tuple", .base (.int _), kit_ty (by decide +kernel), false, rfl, iteF ⟨l1, some (.int (m : Int)), rfl, hl1, s2, hp1', ys, hlys, ?_⟩⟩
        rw [htk, List.append_nil]
        exact hpd
      | inr b =>
        have hat : TreeAt H' b y := hat
        have hmem : b.size ≤ t.size ∧ b.depth < t.depth := by
          have hm := List.mem_of_getElem? hp
          cases t <;> simp only [Tr.row, List.mem_cons, List.not_mem_nil, or_false, Prod.mk.injEq, Sum.inr.injEq, reduceCtorEq, and_false, false_or] at hm <;> simp only [Tr.size, Tr.depth]
          · obtain ⟨_, rfl⟩ := hm; omega
          · rcases hm with ⟨_, rfl⟩ | ⟨_, rfl⟩ <;> omega
          · rcases hm with ⟨_, rfl⟩ | ⟨_, rfl⟩ | ⟨_, rfl⟩ <;> omega
        have htk : (t.row.take (i + 1)).flatMap (fun p => apr p.2) = (t.row.take i).flatMap (fun p => apr p.2) ++ b.parts := htk
        obtain ⟨a2, xs2, rfl, ha2, _, _⟩ := hat.row
        refine ⟨_, rfl, .ref a2, _, _, _, true, rfl, .ty "tuple", .base (.tup ha2), kit_ty (by decide +kernel), true, rfl, iteT ⟨_, rfl, _, rfl, _, b, rfl, hat, by omega, by omega, fun q H2 zs s3 hq hqz hpz => ?_⟩⟩
        have e1 := Paired.len hpz
        have e2 := Paired.len hpd
        have e3 := b.parts_length
        have e4 : ((t.row.take i).flatMap fun p => apr p.2).length + 1 ≤ t.size := by
          have q1 := congrArg List.length hpos
          rw [List.length_cons, hszp] at q1
          have q2 : (t.row.flatMap fun p => apr p.2) = ((t.row.take i).flatMap fun p => apr p.2) ++ ((t.row.drop i).flatMap fun p => apr p.2) := by
            conv => lhs; rw [← List.take_append_drop i t.row]
            rw [List.flatMap_append]
          have q3 := congrArg List.length q2
          rw [List.length_append] at q3
          omega
        rw [List.length_cons] at e2
        refine ⟨l1, q, ys, zs, rfl, rfl, s3 _ _ hlys, hqz, by rw [sizeLine_eq]; omega, fun l2 hl2 => ?_⟩
        have w1 := same_upd (o := .lst (ys ++ zs)) hl2
        refine ⟨l2, some (.ref a2), rfl, Same.free (s2.trans s3) hl2, (s2.trans s3).trans w1, w1 _ _ (s3 _ _ hp1'), ys ++ zs, upd_same, ?_⟩
        rw [htk, ← List.cons_append]
        exact TreesAt.tups (Same.tups w1) (Paired.app (TreesAt.tups (Same.tups s3) hpd) hpz)
    · rintro σ H' ⟨l1, x1, rfl, hl1, s2, hp1', ys, hlys, hpd⟩
      refine ⟨_, rfl, ?_⟩
      rw [hl, List.take_length, ← hpos] at hpd
      exact k l1 H' ys s2 hl1 hlys hpd
/-! ### _law_tree_of -/
theorem scTO : FnScope ["text", "found"] ["text"] (defScope (top 72)) := ⟨rfl, rfl, rfl, by decide +kernel, rfl, by decide +kernel, by decide +kernel⟩
def spTO : Sp := fun vs H Q _ => ∃ (l : List Nat), vs = [.str (SX.S l)] ∧ l.length ≤ 60 ∧ (treeOf l = none → ∀ H', Same H H' → Q .non H') ∧ ∀ t, treeOf l = some t → ∀ a H', Same H H' → TreeAt H' t (.ref a) → Q (.ref a) H'
theorem ok_to (T : Lw P K mg w) : CalX CX0 P w K mg base 64 "_law_tree_of" spTO := by
  refine cal_of T.dTreeOf scTO (fun _ _ _ _ _ _ us hl => match us, hl with | [_], _ => rfl) (fun vs H Q E ⟨l, e, _⟩ => by rw [e]; rfl) ?_
  rintro f cdv A outer s H vs Q E hr ⟨l, rfl, hl, k1, k2⟩
  have B := T.t.r.f.B
  have nd := scTO.nd
  refine ⟨_, pss_cons (ps_set (i := 1) nd rfl (Or.inl rfl) (pe_cx (ok_lr T 62) hr pass0 (by rfl) (pa_cons (pv 0) (pa_cons pe_int pa_nil))))
    (pss_cons (ps_if (PW.pt (pw_or (pt_cmpR op_isN1 (pv 1) pe_non (nomark _)) (pw_or (pt_cmpR op_ne (pe_ix ix_tup (pv 1) pe_int (fun _ _ => rfl)) (pe_callB call_len (by rfl) B.len_ PySem.boot_len (pa_cons (pv 0) pa_nil)) (nomark _))
        (pw_or1 (pt_cmpR op_gt (pe_callB call_len (by rfl) B.len_ PySem.boot_len (pa_cons (pe_cx (ok_lv T 60) hr pass0 (by rfl) (pa_cons (pe_ix ix_tup (pv 1) pe_int (fun _ _ => rfl)) pa_nil)) pa_nil)) pe_int (nomark _)))))) (pss_one (ps_ret pe_non)) pss_nil)
    (pss_one (ps_ret (pe_ix ix_tup (pv 1) pe_int (fun _ _ => rfl))))), ?_⟩
  have E := tree_lrd (n := 61) (l := l) (by omega)
  have lsz : ∀ {m : Nat}, m ≤ 10000 → m ≤ sizeLine := fun h => by rw [sizeLine_eq]; omega
  refine ⟨_, rfl, l, 0, rfl, by omega, by omega, by omega, ?_, ?_⟩
  · intro e H1 s1
    rw [List.drop_zero] at e
    rw [e] at E
    exact ⟨_, rfl, rfl, _, rfl, iteT (iteT (k1 E H1 s1))⟩
  intro t r e a tv j H1 s1 ha ht hdj hj hij
  rw [List.drop_zero] at e
  rw [e] at E
  obtain ⟨hx, hw⟩ := lrd_txt e
  have hsz := size_txt t
  have hlen := congrArg List.length hx
  rw [List.length_append] at hlen
  have hjr : r.length = l.length - j := by rw [← hdj, List.length_drop]
  obtain ⟨b, xs, rfl, hb, _⟩ := ht.row
  refine ⟨_, rfl, rfl, _, rfl, iteF ⟨_, rfl, a, _, 1, _, rfl, rfl, .inl (.inl ha), atI_nat (j := 1) rfl, _, rfl, _, l.length, rfl, ⟨by rw [SX.S_len]; exact lsz (by omega), by rw [SX.S_len]⟩, rfl, _, rfl, ?_⟩⟩
  by_cases hr0 : r = []
  case neg =>
    have : r.length ≠ 0 := fun h => hr0 (List.length_eq_zero_iff.mp h)
    rw [show decide (V.int (j : Int) = V.int (l.length : Int)) = false from by simp; omega]
    refine iteT (iteT (k1 ?_ H1 s1))
    rw [E]
    cases r with
    | nil => exact absurd rfl hr0
    | cons _ _ => rfl
  subst hr0
  rw [show decide (V.int (j : Int) = V.int (l.length : Int)) = true from by simp only [List.length_nil] at hjr; simp; omega]
  have hd := t.depth_le
  refine iteF ⟨_, rfl, a, _, 0, _, rfl, rfl, .inl (.inl ha), atI_nat (j := 0) rfl, _, t, rfl, ht, by omega, by omega, fun p H2 ys s2 hp hpy hpd => ?_⟩
  have e1 := Paired.len hpd
  have e2 := t.parts_length
  refine ⟨_, ys.length, rfl, .inl ⟨_, SqL.of hpy, rfl⟩, _, _, rfl, rfl, _, rfl, ?_⟩
  have E : treeOf l = if t.size ≤ 12 then some t else none := E
  by_cases h12 : t.size ≤ 12
  · rw [if_pos h12] at E
    rw [show decide ((12 : Int) < (ys.length : Int)) = false from by simp; omega]
    exact iteF ⟨_, rfl, a, _, 0, _, rfl, rfl, .inl (.inl (s2 _ _ ha)), atI_nat (j := 0) rfl, k2 t E b H2 (s1.trans s2) (ht.tups (Same.tups s2))⟩
  · rw [if_neg h12] at E
    rw [show decide ((12 : Int) < (ys.length : Int)) = true from by simp; omega]
    exact iteT (k1 E H2 (s1.trans s2))
end
end Km
set_option Elab.async false
set_option linter.all false
set_option maxRecDepth 100000
set_option maxHeartbeats 4000000
/-! the law's good words -/
namespace Km
open PySem PySem.Spec PyProof.Rows L2
def isLf : Tr → Bool
  | .given => true | .setting => true | .col _ => true | .kept _ => true
  | _ => false
/-- a leaf as data -/
def lfD : Tr → PyData
  | .given => .tuple [.str "given"]
  | .setting => .tuple [.str "setting"]
  | .col n => .tuple [.str "column", .int (n : Int)]
  | .kept n => .tuple [.str "kept", .int (n : Int)]
  | _ => .none
theorem lfD_shaped (t : Tr) : SeqAt.shaped (lfD t) = true := by
  cases t <;> simp [lfD, SeqAt.shaped, PyData.canLay0, PyData.canLayAll0, PyData.depth, PyData.depthAll] <;> decide +kernel
theorem eqv_t1 (a b : Str) : PyData.eqv (.tuple [.str a]) (.tuple [.str b]) = (a == b) := by simp [PyData.eqv, PyData.eqvAll]
theorem eqv_t2 (a b : Str) (n m : Int) : PyData.eqv (.tuple [.str a, .int n]) (.tuple [.str b, .int m]) = (a == b && decide (n = m)) := by
  simp [PyData.eqv, PyData.eqvAll, Bool.beq_eq_decide_eq]
theorem eqv_t12 (a b : Str) (n : Int) : PyData.eqv (.tuple [.str a]) (.tuple [.str b, .int n]) = false := by simp [PyData.eqv, PyData.eqvAll]
theorem eqv_t21 (a b : Str) (n : Int) : PyData.eqv (.tuple [.str a, .int n]) (.tuple [.str b]) = false := by simp [PyData.eqv, PyData.eqvAll]
theorem lfD_eqv {t u : Tr} (h : isLf t = true) (g : isLf u = true) : PyData.eqv (lfD t) (lfD u) = decide (t = u) := by
  cases t <;> first | (cases h; done) | skip
  all_goals cases u <;> first | (cases g; done) | skip
  all_goals simp only [lfD, eqv_t1, eqv_t2, eqv_t12, eqv_t21]
  · rfl
  · rw [show (("given" : Str) == "setting") = false from by decide +kernel]; simp
  · simp
  · simp
  · rw [show (("setting" : Str) == "given") = false from by decide +kernel]; simp
  · rfl
  · simp
  · simp
  · simp
  · simp
  · rw [show (("column" : Str) == "column") = true from by decide +kernel]; simp [Int.ofNat_inj]
  · rw [show (("column" : Str) == "kept") = false from by decide +kernel]; simp
  · simp
  · simp
  · rw [show (("kept" : Str) == "column") = false from by decide +kernel]; simp
  · rw [show (("kept" : Str) == "kept") = true from by decide +kernel]; simp [Int.ofNat_inj]
theorem lfD_any {t : Tr} (h : isLf t = true) : ∀ ws : List Tr, (∀ u ∈ ws, isLf u = true) → ((ws.map lfD).any fun z => PyData.eqv z (lfD t)) = decide (t ∈ ws)
  | [], _ => by simp
  | u :: ws, hu => by
    rw [List.map_cons, List.any_cons, lfD_any h ws fun x hx => hu x (List.mem_cons_of_mem _ hx), lfD_eqv (hu u (List.mem_cons_self ..)) h]
    rw [Bool.eq_iff_iff]
    simp only [Bool.or_eq_true, decide_eq_true_eq, List.mem_cons]
    exact ⟨fun e => e.elim (fun e => .inl e.symm) .inr, fun e => e.elim (fun e => .inl e.symm) .inr⟩
theorem shaped_ws (ws : List Tr) : SeqAt.shaped (.list (ws.map lfD)) = true := by
  have h1 : ∀ ws : List Tr, PyData.canLayAll0 (ws.map lfD) = true ∧ PyData.depthAll (ws.map lfD) ≤ 10 := by
    intro ws
    induction ws with
    | nil => exact ⟨rfl, by decide⟩
    | cons t ws ih =>
      obtain ⟨i1, i2⟩ := ih
      have a1 : (lfD t).canLay0 = true := by cases t <;> simp [lfD, PyData.canLay0, PyData.canLayAll0] <;> decide +kernel
      have a2 : (lfD t).depth ≤ 5 := by cases t <;> simp [lfD, PyData.depth, PyData.depthAll]
      refine ⟨by simp [PyData.canLayAll0, a1, i1], ?_⟩
      simp only [List.map_cons, PyData.depthAll]
      omega
  obtain ⟨i1, i2⟩ := h1 ws
  simp only [SeqAt.shaped, Bool.and_eq_true, decide_eq_true_eq]
  refine ⟨by simpa [PyData.canLay0] using i1, ?_⟩
  simp only [PyData.depth]
  omega
def isGood (b m : Nat) (ws : List Tr) (l : List Nat) : Bool := match treeOf l with
  | none => false
  | some t => goodT b m (fun x => decide (x ∈ ws)) t
section
variable {P : Program} {w : World} {K : PySem.W.Frag} {mg : Str → Option Value} {base : Heap}
theorem dp_lf {H : Hp} {t : Tr} {v : V} (h : isLf t = true) (ht : TreeAt H t v) : Dp K H v (lfD t) := by
  cases t <;> first | (cases h; done) | skip
  · obtain ⟨a, rfl, ha⟩ := ht
    exact .tup (.inl (.inl ha)) (.cons (.str _) .nil)
  · obtain ⟨a, rfl, ha⟩ := ht
    exact .tup (.inl (.inl ha)) (.cons (.str _) .nil)
  · obtain ⟨a, rfl, ha⟩ := ht
    exact .tup (.inl (.inl ha)) (.cons (.str _) (.cons (.int _) .nil))
  · obtain ⟨a, rfl, ha⟩ := ht
    exact .tup (.inl (.inl ha)) (.cons (.str _) (.cons (.int _) .nil))
theorem dp_ws {H : Hp} : ∀ {ws : List Tr} {vs : List V}, (∀ u ∈ ws, isLf u = true) → Paired (TreeAt H) ws vs → DpAll K H vs (ws.map lfD)
  | _, _, _, .nil => .nil
  | u :: ws, _, h, .cons a b => .cons (dp_lf (h u (List.mem_cons_self ..)) a) (dp_ws (fun x hx => h x (List.mem_cons_of_mem _ hx)) b)
theorem scIG : FnScope ["text", "base", "words", "most", "tree", "part"] ["text", "base", "words", "most"] (defScope (top 73)) := ⟨rfl, rfl, rfl, by decide +kernel, rfl, by decide +kernel, by decide +kernel⟩
def WsAt (K : PySem.W.Frag) (H : Hp) (wl : Addr) (ws : List Tr) : Prop := ∃ vs, SqL K H wl vs ∧ Paired (TreeAt H) ws vs ∧ ∀ u ∈ ws, isLf u = true
theorem WsAt.same {H H' : Hp} {wl : Addr} {ws : List Tr} (h : WsAt K H wl ws) (s : Same H H') : WsAt K H' wl ws := by
  obtain ⟨vs, h1, h2, h3⟩ := h
  exact ⟨vs, s.seq h1, TreesAt.tups (Same.tups s) h2, h3⟩
def spIG (K : PySem.W.Frag) : Sp := fun vs H Q _ => ∃ (l : List Nat) (b m : Nat) (wl : Addr) (ws : List Tr), vs = [.str (SX.S l), .int (b : Int), .ref wl, .int (m : Int)] ∧ l.length ≤ 60 ∧ WsAt K H wl ws ∧ ∀ H', Same H H' → Q (.bl (isGood b m ws l)) H'
theorem nc_word (y : Tr) : inV (.str y.word) [.str "number", .str "call"] = (match y with | .num _ => true | .call _ _ => true | _ => false) := by
  cases y with
  | num n => exact (show inV (.str ("number" : Str)) [.str "number", .str "call"] = true by decide +kernel)
  | given => exact (show inV (.str ("given" : Str)) [.str "number", .str "call"] = false by decide +kernel)
  | setting => exact (show inV (.str ("setting" : Str)) [.str "number", .str "call"] = false by decide +kernel)
  | col n => exact (show inV (.str ("column" : Str)) [.str "number", .str "call"] = false by decide +kernel)
  | kept n => exact (show inV (.str ("kept" : Str)) [.str "number", .str "call"] = false by decide +kernel)
  | call n a => exact (show inV (.str ("call" : Str)) [.str "number", .str "call"] = true by decide +kernel)
  | bin o a b => exact (show inV (.str o.word) [.str "number", .str "call"] = false by cases o <;> decide +kernel)
  | whn t a b => exact (show inV (.str ("when" : Str)) [.str "number", .str "call"] = false by decide +kernel)
theorem lf_word (y : Tr) : inV (.str y.word) [.str "given", .str "setting", .str "column", .str "kept"] = isLf y := by
  cases y with
  | num n => exact (show inV (.str ("number" : Str)) [.str "given", .str "setting", .str "column", .str "kept"] = false by decide +kernel)
  | given => exact (show inV (.str ("given" : Str)) [.str "given", .str "setting", .str "column", .str "kept"] = true by decide +kernel)
  | setting => exact (show inV (.str ("setting" : Str)) [.str "given", .str "setting", .str "column", .str "kept"] = true by decide +kernel)
  | col n => exact (show inV (.str ("column" : Str)) [.str "given", .str "setting", .str "column", .str "kept"] = true by decide +kernel)
  | kept n => exact (show inV (.str ("kept" : Str)) [.str "given", .str "setting", .str "column", .str "kept"] = true by decide +kernel)
  | call n a => exact (show inV (.str ("call" : Str)) [.str "given", .str "setting", .str "column", .str "kept"] = false by decide +kernel)
  | bin o a b => exact (show inV (.str o.word) [.str "given", .str "setting", .str "column", .str "kept"] = false by cases o <;> decide +kernel)
  | whn t a b => exact (show inV (.str ("when" : Str)) [.str "given", .str "setting", .str "column", .str "kept"] = false by decide +kernel)
theorem part_lf {b m : Nat} {leaf : Tr → Bool} {y : Tr} (h : isLf y = true) : partOk b m leaf y = leaf y := by
  cases y <;> first | rfl | cases h
theorem ok_ig (T : Lw P K mg w) : CalX CX0 P w K mg base 65 "_law_is_good" (spIG K) := by
  refine cal_of T.dIsGood scIG (fun _ _ _ _ _ _ us hl => match us, hl with | [_, _, _, _], _ => rfl) (fun vs H Q E ⟨l, b, m, wl, ws, e, _⟩ => by rw [e]; rfl) ?_
  rintro f cdv A outer s H vs Q E hr ⟨l, b, m, wl, ws, rfl, hl, hws, k⟩
  have B := T.t.r.f.B
  have nd := scIG.nd
  have hu65 : ∀ {n : Nat}, n + 16 * 64 + 200 < cLine → n + 65 < cLine := fun h => by omega
  refine ⟨_, pss_cons (ps_set (i := 4) nd rfl (Or.inl rfl) (pe_cx (ok_to T) hr pass0 (by rfl) (pa_cons (pv 0) pa_nil)))
    (pss_cons (ps_for (passes_of rfl) rfl (pi_list (pe_ifExp (pt_cmpR op_isN1 (pv 4) pe_non (nomark _)) (pe_lst pa_nil) (pe_cx (ok_lv T 60) hr pass0 (by rfl) (pa_cons (pv 4) pa_nil)))) (pg_name (i := 5) nd rfl (Or.inl rfl))
      (pss_cons (ps_if (PW.pt (pw_and (pt_cmpR op_in_seq (pe_ix ix_tup (pv 5) pe_int (fun _ _ => rfl)) (pe_tup (pa_cons pe_str (pa_cons pe_str pa_nil))) (by rfl))
          (pw_and1 (pt_cmpR op_ge (pe_ix ix_tup (pv 5) pe_int (fun _ _ => rfl)) (pe_ifExp (pt_cmpR op_eq (pe_ix ix_tup (pv 5) pe_int (fun _ _ => rfl)) pe_str (nomark _)) (pv 1) (pv 3)) (nomark _))))) (pss_one (ps_ret pe_bl)) pss_nil)
      (pss_one (ps_if (PW.pt (pw_and (pt_cmpR op_in_seq (pe_ix ix_tup (pv 5) pe_int (fun _ _ => rfl)) (pe_tup (pa_cons pe_str (pa_cons pe_str (pa_cons pe_str (pa_cons pe_str pa_nil))))) (by rfl))
          (pw_and1 (pt_cmpR (op_notInD (hu65 hr.un)) (pv 5) (pv 2) (by rfl))))) (pss_one (ps_ret pe_bl)) pss_nil))))
    (pss_one (ps_ret (pe_cmpR op_notN1 (pv 4) pe_non (nomark _))))), ?_⟩
  have L2' : 2 ≤ sizeLine := by show 2 ≤ sizeLine; decide
  refine ⟨_, rfl, l, rfl, hl, ?_, ?_⟩
  · intro e H1 s1
    have hG : isGood b m ws l = false := by unfold isGood; rw [e]
    rw [hG] at k
    refine ⟨_, rfl, rfl, _, rfl, iteT ⟨Nat.zero_le _, fun q hq => ⟨q, rfl, ⟨_, SqL.of upd_same⟩, ?_⟩⟩⟩
    have s2 := s1.trans (same_upd (o := .lst []) hq)
    have hqv := upd_same (H := H1) (a := q) (o := .lst [])
    generalize upd H1 q (.lst []) = H2 at s2 hqv
    refine for_list (xs := []) (fun i σ H' => σ = [some (.str (SX.S l)), some (.int (b : Int)), some (.ref wl), some (.int (m : Int)), some .non, none] ∧ H' = H2) ⟨rfl, rfl⟩ ?_ ?_ ?_
    · rintro i σ H' _ ⟨_, rfl⟩
      exact SqL.of hqv
    · intro i x σ H' hx
      cases hx
    · rintro σ H' ⟨rfl, rfl⟩
      exact ⟨_, rfl, rfl, k _ s2⟩
  intro t e a H1 s1 ht
  have hsz : t.size ≤ 12 := by
    unfold treeOf at e
    split at e
    · split at e
      · cases e; assumption
      · cases e
    · cases e
  have hd := t.depth_le
  have hG : isGood b m ws l = goodT b m (fun x => decide (x ∈ ws)) t := by unfold isGood; rw [e]
  refine ⟨_, rfl, rfl, _, rfl, iteF ⟨_, rfl, .ref a, t, rfl, ht, by omega, by omega, fun p H2 xs s2 hp hpx hpd => ⟨p, rfl, ⟨_, SqL.of hpx⟩, ?_⟩⟩⟩
  have hlen := Paired.len hpd
  have bad : ∀ {i : Nat} {y : Tr} {H' : Hp}, t.parts[i]? = some y → partOk b m (fun x => decide (x ∈ ws)) y = false → Same H H' → Q (.bl false) H' := fun hy hf s' => by
    have := k _ s'
    rw [hG, show goodT b m (fun x => decide (x ∈ ws)) t = false from List.all_eq_false.mpr ⟨_, List.mem_of_getElem? hy, by rw [hf]; decide⟩] at this
    exact this
  refine for_list (xs := xs) (fun i σ H' => ∃ x5, σ = [some (.str (SX.S l)), some (.int (b : Int)), some (.ref wl), some (.int (m : Int)), some (.ref a), x5] ∧ Same H2 H' ∧ ∀ j, j < i → ∀ y, t.parts[j]? = some y → partOk b m (fun x => decide (x ∈ ws)) y = true) ⟨_, rfl, Same.refl _, fun j hj => absurd hj (Nat.not_lt_zero _)⟩ ?_ ?_ ?_
  · rintro i σ H' _ ⟨_, rfl, s3, _⟩
    exact SqL.of (s3 _ _ hpx)
  · rintro i x σ H3 hx ⟨x5, rfl, s3, hok⟩
    have hi : i < t.parts.length := by rw [hlen]; exact (List.getElem?_eq_some_iff.mp hx).1
    obtain ⟨y, hy⟩ : ∃ y, t.parts[i]? = some y := ⟨t.parts[i], List.getElem?_eq_getElem hi⟩
    have hty := (Paired.at hpd hy hx).tups (Same.tups s3)
    obtain ⟨c, ys, rfl, hc, _⟩ := hty.row
    refine ⟨_, rfl, c, _, 0, _, rfl, rfl, .inl (.inl hc), atI_nat (j := 0) rfl, L2', fun t1 ht1 => ⟨t1, _, rfl, .inr (.inl (.inl upd_same)), rfl, by decide +kernel, _, rfl, ?_⟩⟩
    have s4 := s3.trans (same_upd (o := .tup [.str "number", .str "call"]) ht1)
    have w1 := same_upd (o := .tup [.str "number", .str "call"]) ht1
    have hc := w1 _ _ hc
    have hty := hty.tups (Same.tups w1)
    generalize upd H3 t1 _ = H4 at s4 hc hty ⊢
    clear w1
    have sH := s1.trans (s2.trans s4)
    rw [nc_word]
    have next : ∀ {H5 : Hp}, Same H4 H5 → partOk b m (fun x => decide (x ∈ ws)) y = true → ∃ x5', [some (V.str (SX.S l)), some (V.int (b : Int)), some (V.ref wl), some (V.int (m : Int)), some (V.ref a), some (V.ref c)] = [some (V.str (SX.S l)), some (V.int (b : Int)), some (V.ref wl), some (V.int (m : Int)), some (V.ref a), x5'] ∧ Same H2 H5 ∧ ∀ j, j < i + 1 → ∀ y, t.parts[j]? = some y → partOk b m (fun x => decide (x ∈ ws)) y = true := fun s5 hp => ⟨_, rfl, s4.trans s5, fun j hj z hz => by
      by_cases h : j = i
      · subst h
        rw [hy] at hz
        cases hz
        exact hp
      · exact hok j (by omega) z hz⟩
    cases y with
    | num n =>
      have hcn : H4 c = some (.tup [.str "number", .int (n : Int)]) := by
        obtain ⟨c2, e2, hc2⟩ := hty
        cases e2
        exact hc2
      refine iteT ⟨_, rfl, c, _, 1, _, rfl, rfl, .inl (.inl hcn), atI_nat (j := 1) rfl, _, rfl, c, _, 0, _, rfl, rfl, .inl (.inl hc), atI_nat (j := 0) rfl, rfl, _, rfl, ifEq rfl ⟨_, rfl, _, _, rfl, rfl, _, rfl, ?_⟩⟩
      by_cases hlt : n < b
      · rw [show decide ((b : Int) ≤ (n : Int)) = false from by simp; omega]
        refine iteF ⟨_, rfl, c, _, 0, _, rfl, rfl, .inl (.inl hc), atI_nat (j := 0) rfl, (by show 4 ≤ sizeLine; decide), fun t2 ht2 => ⟨t2, _, rfl, .inr (.inl (.inl upd_same)), rfl, by decide +kernel, _, rfl, ?_⟩⟩
        rw [lf_word]
        exact iteF (iteF (next (same_upd (o := .tup [.str "given", .str "setting", .str "column", .str "kept"]) ht2) (decide_eq_true hlt)))
      · rw [show decide ((b : Int) ≤ (n : Int)) = true from by simp; omega]
        exact iteT (bad hy (decide_eq_false hlt) sH)
    | call n z =>
      obtain ⟨xx, hcn⟩ : ∃ xx, H4 c = some (.tup [.str "call", .int (n : Int), xx]) := by
        obtain ⟨c2, xx, e2, hc2, _⟩ := hty
        cases e2
        exact ⟨xx, hc2⟩
      refine iteT ⟨_, rfl, c, _, 1, _, rfl, rfl, .inl (.inl hcn), atI_nat (j := 1) rfl, _, rfl, c, _, 0, _, rfl, rfl, .inl (.inl hc), atI_nat (j := 0) rfl, rfl, _, rfl, ifNe (show ("call" : Str) ≠ "number" by decide +kernel) ⟨_, rfl, _, _, rfl, rfl, _, rfl, ?_⟩⟩
      by_cases hlt : n < m
      · rw [show decide ((m : Int) ≤ (n : Int)) = false from by simp; omega]
        refine iteF ⟨_, rfl, c, _, 0, _, rfl, rfl, .inl (.inl hc), atI_nat (j := 0) rfl, (by show 4 ≤ sizeLine; decide), fun t2 ht2 => ⟨t2, _, rfl, .inr (.inl (.inl upd_same)), rfl, by decide +kernel, _, rfl, ?_⟩⟩
        rw [lf_word]
        exact iteF (iteF (next (same_upd (o := .tup [.str "given", .str "setting", .str "column", .str "kept"]) ht2) (decide_eq_true hlt)))
      · rw [show decide ((m : Int) ≤ (n : Int)) = true from by simp; omega]
        exact iteT (bad hy (decide_eq_false hlt) sH)
    | bin o z1 z2 =>
      refine iteF (iteF ⟨_, rfl, c, _, 0, _, rfl, rfl, .inl (.inl hc), atI_nat (j := 0) rfl, (by show 4 ≤ sizeLine; decide), fun t2 ht2 => ⟨t2, _, rfl, .inr (.inl (.inl upd_same)), rfl, by decide +kernel, _, rfl, ?_⟩⟩)
      rw [lf_word]
      exact iteF (iteF (next (same_upd (o := .tup [.str "given", .str "setting", .str "column", .str "kept"]) ht2) rfl))
    | whn z1 z2 z3 =>
      refine iteF (iteF ⟨_, rfl, c, _, 0, _, rfl, rfl, .inl (.inl hc), atI_nat (j := 0) rfl, (by show 4 ≤ sizeLine; decide), fun t2 ht2 => ⟨t2, _, rfl, .inr (.inl (.inl upd_same)), rfl, by decide +kernel, _, rfl, ?_⟩⟩)
      rw [lf_word]
      exact iteF (iteF (next (same_upd (o := .tup [.str "given", .str "setting", .str "column", .str "kept"]) ht2) rfl))
    | given =>
      refine iteF (iteF ⟨_, rfl, c, _, 0, _, rfl, rfl, .inl (.inl hc), atI_nat (j := 0) rfl, (by show 4 ≤ sizeLine; decide), fun t2 ht2 => ⟨t2, _, rfl, .inr (.inl (.inl upd_same)), rfl, by decide +kernel, _, rfl, ?_⟩⟩)
      have w2 := same_upd (o := .tup [.str "given", .str "setting", .str "column", .str "kept"]) ht2
      have hty2 := hty.tups (Same.tups w2)
      obtain ⟨vs, hv1, hv2, hv3⟩ := (hws.same sH).same w2
      generalize upd H4 t2 _ = H5 at w2 hty2 hv1 hv2 ⊢
      rw [lf_word]
      refine iteT ⟨_, rfl, _, rfl, lfD (.given), ws.map lfD, dp_lf rfl hty2, .lst hv1 (dp_ws hv3 hv2), lfD_shaped _, shaped_ws _, _, rfl, ?_⟩
      rw [lfD_any rfl ws hv3]
      cases hm : decide ((.given : Tr) ∈ ws) with
      | true => exact iteF (next w2 hm)
      | false => exact iteT (bad hy hm (sH.trans w2))
    | setting =>
      refine iteF (iteF ⟨_, rfl, c, _, 0, _, rfl, rfl, .inl (.inl hc), atI_nat (j := 0) rfl, (by show 4 ≤ sizeLine; decide), fun t2 ht2 => ⟨t2, _, rfl, .inr (.inl (.inl upd_same)), rfl, by decide +kernel, _, rfl, ?_⟩⟩)
      have w2 := same_upd (o := .tup [.str "given", .str "setting", .str "column", .str "kept"]) ht2
      have hty2 := hty.tups (Same.tups w2)
      obtain ⟨vs, hv1, hv2, hv3⟩ := (hws.same sH).same w2
      generalize upd H4 t2 _ = H5 at w2 hty2 hv1 hv2 ⊢
      rw [lf_word]
      refine iteT ⟨_, rfl, _, rfl, lfD (.setting), ws.map lfD, dp_lf rfl hty2, .lst hv1 (dp_ws hv3 hv2), lfD_shaped _, shaped_ws _, _, rfl, ?_⟩
      rw [lfD_any rfl ws hv3]
      cases hm : decide ((.setting : Tr) ∈ ws) with
      | true => exact iteF (next w2 hm)
      | false => exact iteT (bad hy hm (sH.trans w2))
    | col n =>
      refine iteF (iteF ⟨_, rfl, c, _, 0, _, rfl, rfl, .inl (.inl hc), atI_nat (j := 0) rfl, (by show 4 ≤ sizeLine; decide), fun t2 ht2 => ⟨t2, _, rfl, .inr (.inl (.inl upd_same)), rfl, by decide +kernel, _, rfl, ?_⟩⟩)
      have w2 := same_upd (o := .tup [.str "given", .str "setting", .str "column", .str "kept"]) ht2
      have hty2 := hty.tups (Same.tups w2)
      obtain ⟨vs, hv1, hv2, hv3⟩ := (hws.same sH).same w2
      generalize upd H4 t2 _ = H5 at w2 hty2 hv1 hv2 ⊢
      rw [lf_word]
      refine iteT ⟨_, rfl, _, rfl, lfD (.col n), ws.map lfD, dp_lf rfl hty2, .lst hv1 (dp_ws hv3 hv2), lfD_shaped _, shaped_ws _, _, rfl, ?_⟩
      rw [lfD_any rfl ws hv3]
      cases hm : decide ((.col n : Tr) ∈ ws) with
      | true => exact iteF (next w2 hm)
      | false => exact iteT (bad hy hm (sH.trans w2))
    | kept n =>
      refine iteF (iteF ⟨_, rfl, c, _, 0, _, rfl, rfl, .inl (.inl hc), atI_nat (j := 0) rfl, (by show 4 ≤ sizeLine; decide), fun t2 ht2 => ⟨t2, _, rfl, .inr (.inl (.inl upd_same)), rfl, by decide +kernel, _, rfl, ?_⟩⟩)
      have w2 := same_upd (o := .tup [.str "given", .str "setting", .str "column", .str "kept"]) ht2
      have hty2 := hty.tups (Same.tups w2)
      obtain ⟨vs, hv1, hv2, hv3⟩ := (hws.same sH).same w2
      generalize upd H4 t2 _ = H5 at w2 hty2 hv1 hv2 ⊢
      rw [lf_word]
      refine iteT ⟨_, rfl, _, rfl, lfD (.kept n), ws.map lfD, dp_lf rfl hty2, .lst hv1 (dp_ws hv3 hv2), lfD_shaped _, shaped_ws _, _, rfl, ?_⟩
      rw [lfD_any rfl ws hv3]
      cases hm : decide ((.kept n : Tr) ∈ ws) with
      | true => exact iteF (next w2 hm)
      | false => exact iteT (bad hy hm (sH.trans w2))
  · rintro σ H3 ⟨x5, rfl, s3, hok⟩
    refine ⟨_, rfl, rfl, ?_⟩
    have := k H3 (s1.trans (s2.trans s3))
    rw [hG, show goodT b m (fun x => decide (x ∈ ws)) t = true from List.all_eq_true.mpr fun y hy => by
      obtain ⟨j, hj⟩ := List.getElem?_of_mem hy
      exact hok j (by rw [← hlen]; exact (List.getElem?_eq_some_iff.mp hj).1) y hj] at this
    exact this
end
end Km
set_option Elab.async false
set_option linter.all false
set_option maxRecDepth 100000
set_option maxHeartbeats 4000000
/-! the law's look at a book's lines -/
namespace Km
open PySem PySem.Spec PyProof.Rows L2
/-- lines fit to be read by the law, too -/
structure FitL (ls : List (List Nat)) : Prop where
  fit : Fit ls
  wl : ∀ l ∈ ls, ∀ x ∈ cut 32 l, x.length ≤ 60
def wsB : List Tr := [.given, .setting]
theorem good_congr {b m : Nat} {f g : Tr → Bool} (h : ∀ t, isLf t = true → f t = g t) (t : Tr) : goodT b m f t = goodT b m g t := by
  unfold goodT
  have : ∀ y, partOk b m f y = partOk b m g y := fun y => by
    cases y <;> first | rfl | exact h _ rfl
  rw [show partOk b m f = partOk b m g from funext this]
theorem good_B {b m : Nat} (t : Tr) : goodT b m (fun x => decide (x ∈ wsB)) t = goodT b m leafB t := good_congr (fun t h => by
  cases t <;> first | (cases h; done) | simp [wsB, leafB]) t
/-- the words write good bodies -/
def goodWs (b m : Nat) (ws : List (List Nat)) : Bool := ws.all (isGood b m wsB)
theorem goodWs_some {b m : Nat} : ∀ {ws : List (List Nat)} {bs : List Tr}, treesOf ws = some bs → goodWs b m ws = bs.all (goodT b m leafB)
  | [], bs, h => by cases h; rfl
  | w :: ws, bs, h => by
    unfold treesOf at h
    cases e : treeOf w with
    | none => rw [e] at h; cases h
    | some t =>
      rw [e] at h
      obtain ⟨ts, e', rfl⟩ := Option.map_eq_some_iff.mp h
      have ih := goodWs_some (b := b) (m := m) e'
      unfold goodWs at ih ⊢
      rw [List.all_cons, List.all_cons, ih]
      congr 1
      unfold isGood
      rw [e]
      exact good_B t
theorem goodWs_none {b m : Nat} : ∀ {ws : List (List Nat)}, treesOf ws = none → goodWs b m ws = false
  | [], h => by cases h
  | w :: ws, h => by
    unfold treesOf at h
    unfold goodWs
    rw [List.all_cons]
    cases e : treeOf w with
    | none =>
      unfold isGood
      rw [e]
      rfl
    | some t =>
      rw [e] at h
      have ih := goodWs_none (b := b) (m := m) (Option.map_eq_none_iff.mp h)
      unfold goodWs at ih
      rw [ih, Bool.and_false]
/-- what a book's lines give, as the law tells it -/
def BkRes : BookR → Nat → Nat → Nat → Nat → Prop
  | .bad a, i, _, m, _ => i = a ∧ m = 0
  | .ok b s fs, i, b', m, s' => i = 2 + fs.length ∧ b' = b ∧ m = fs.length ∧ s' = s ∧ 1 ≤ fs.length ∧ fs.length ≤ 3 ∧ 2 ≤ b ∧ b ≤ 3 ∧ 1 ≤ s ∧ s ≤ b
theorem funsGo_bad {b : Nat} {fs : List (List Tr)} {l : List Nat} {ls ws : List (List Nat)} (hc : cut 32 l = cs "function" :: ws) (h : (1 ≤ ws.length ∧ ws.length ≤ 3) → ¬ fs.length = 3 → goodWs b fs.length ws = false) : funsGo b fs (l :: ls) = (false, fs) := by
  unfold funsGo
  rw [hc]
  dsimp only
  rw [if_pos rfl]
  cases e : treesOf ws with
  | none => rfl
  | some bs =>
    dsimp only
    rw [if_neg]
    intro hf
    have hl := treesOf_len e
    unfold funsAll at hf
    rw [funsOk_app, Bool.and_eq_true, decide_eq_true_eq, List.length_append, List.length_singleton, Bool.and_eq_true] at hf
    have h2 := hf.2.2
    simp only [funsOk, Bool.and_true, bsOk, Bool.and_eq_true, decide_eq_true_eq, Nat.zero_add] at h2
    have := h (by omega) (by omega)
    rw [goodWs_some e, h2.2] at this
    cases this
theorem funsGo_good {b : Nat} {fs : List (List Tr)} {l : List Nat} {ls ws : List (List Nat)} (hc : cut 32 l = cs "function" :: ws) (hf : fs = [] ∨ funsAll b fs = true) (h1 : 1 ≤ ws.length ∧ ws.length ≤ 3) (h2 : ¬ fs.length = 3) (h3 : goodWs b fs.length ws = true) :
    ∃ bs, funsAll b (fs ++ [bs]) = true ∧ funsGo b fs (l :: ls) = funsGo b (fs ++ [bs]) ls := by
  cases e : treesOf ws with
  | none => rw [goodWs_none e] at h3; cases h3
  | some bs =>
    have hl := treesOf_len e
    rw [goodWs_some e] at h3
    have hall : funsAll b (fs ++ [bs]) = true := by
      unfold funsAll
      rw [funsOk_app, Bool.and_eq_true, decide_eq_true_eq, List.length_append, List.length_singleton, Bool.and_eq_true]
      have hb : funsOk b (0 + fs.length) [bs] = true := by
        simp only [funsOk, Bool.and_true, bsOk, Bool.and_eq_true, decide_eq_true_eq, Nat.zero_add]
        exact ⟨by omega, h3⟩
      rcases hf with rfl | hf
      · exact ⟨by simp, rfl, hb⟩
      · unfold funsAll at hf
        rw [Bool.and_eq_true, decide_eq_true_eq] at hf
        exact ⟨by omega, hf.2, hb⟩
    refine ⟨bs, hall, ?_⟩
    conv => lhs; unfold funsGo
    rw [hc]
    dsimp only
    rw [if_pos rfl, e]
    dsimp only
    rw [if_pos hall]
theorem funsGo_end {b : Nat} {fs : List (List Tr)} {l : List Nat} {ls : List (List Nat)} (h : ∀ ws, cut 32 l ≠ cs "function" :: ws) : funsGo b fs (l :: ls) = (true, fs) := by
  unfold funsGo
  cases e : cut 32 l with
  | nil => rfl
  | cons x ws =>
    dsimp only
    rw [if_neg fun hx => h ws (by rw [e, hx])]
theorem eqSS (a b : List Nat) : decide (V.str (SX.S a) = V.str (SX.S b)) = decide (a = b) := by
  by_cases h : a = b
  · subst h; rw [decide_eq_true rfl, decide_eq_true rfl]
  · rw [decide_eq_false h, decide_eq_false]
    intro e
    exact h (SX.S_inj (V.str.inj e))
def kwB : Nat → List Nat
  | 0 => cs "base"
  | _ => cs "settings"
def loB : Nat → Nat
  | 0 => 2
  | _ => 1
def hiB (n : Nat) : Nat → Nat
  | 0 => 3
  | _ => n
def InvB (ls : List (List Nat)) (i : Nat) : Prop := (1 ≤ i → ∃ b, take1 (cs "base") ls[0]? = some b ∧ 2 ≤ b ∧ b ≤ 3) ∧ (2 ≤ i → ∃ b s, take1 (cs "base") ls[0]? = some b ∧ take1 (cs "settings") ls[1]? = some s ∧ 1 ≤ s ∧ s ≤ b)
theorem bk_none {ls : List (List Nat)} {i : Nat} (hi : i < 2) (h : InvB ls i) (e : take1 (kwB i) ls[i]? = none) : bookR ls = .bad i := by
  match i, hi with
  | 0, _ =>
    have e : take1 (cs "base") ls[0]? = none := e
    unfold bookR
    rw [e]
  | 1, _ =>
    have e : take1 (cs "settings") ls[1]? = none := e
    obtain ⟨b, h1, h2, h3⟩ := h.1 (Nat.le_refl _)
    unfold bookR
    rw [h1]
    dsimp only
    rw [if_neg (by omega), e]
theorem bk_some {ls : List (List Nat)} {i n : Nat} (hi : i < 2) (h : InvB ls i) (e : take1 (kwB i) ls[i]? = some n) :
    ∃ n0, take1 (cs "base") ls[0]? = some n0 ∧ (¬ (loB i ≤ n ∧ n ≤ hiB n0 i) → bookR ls = .bad i) ∧ (loB i ≤ n ∧ n ≤ hiB n0 i → InvB ls (i + 1)) := by
  match i, hi with
  | 0, _ =>
    have e : take1 (cs "base") ls[0]? = some n := e
    refine ⟨n, e, fun hn => ?_, fun hn => ⟨fun _ => ⟨n, e, hn.1, hn.2⟩, fun h2 => absurd h2 (by omega)⟩⟩
    unfold bookR
    rw [e]
    exact if_pos hn
  | 1, _ =>
    have e : take1 (cs "settings") ls[1]? = some n := e
    obtain ⟨b, h1, h2, h3⟩ := h.1 (Nat.le_refl _)
    refine ⟨b, h1, fun hn => ?_, fun hn => ⟨fun _ => ⟨b, h1, h2, h3⟩, fun _ => ⟨b, n, h1, e, hn.1, hn.2⟩⟩⟩
    unfold bookR
    rw [h1]
    dsimp only
    rw [if_neg (by omega), e]
    exact if_pos hn
theorem take1_cons {k h l : List Nat} {ws : List (List Nat)} (hc : cut 32 l = h :: ws) : take1 k (some l) = if h = k then (match digs ws with | some [n] => some n | _ => none) else none := by
  have h0 : takeL k (some l) = if h = k then digs ws else none := by
    show takeW k (cut 32 l) = _
    rw [hc]
    rfl
  unfold take1
  rw [h0]
  by_cases e : h = k
  · rw [if_pos e, if_pos e]
    all_goals rfl
  · rw [if_neg e, if_neg e]
theorem sl_listK (K : PySem.W.Frag) {X : Cx} (h : X.K = K) : SlR X (rSlL K) := h ▸ sl_list
section
variable {P : Program} {w : World} {K : PySem.W.Frag} {mg : Str → Option Value} {base : Heap}
/-- the numbers that a line's words write, or None -/
def DgV (D : Addr) (H : Hp) (ws : List (List Nat)) (v : V) : Prop := (digs ws = none ∧ v = .non) ∨ ∃ ns p, digs ws = some ns ∧ v = .ref p ∧ p ≠ D ∧ H p = some (.lst (nV ns))
theorem DgV.but {D : Addr} {H H' : Hp} {ws : List (List Nat)} {v : V} (h : DgV D H ws v) (s : SameBut D H H') : DgV D H' ws v := by
  rcases h with h | ⟨ns, p, h1, h2, h3, h4⟩
  · exact .inl h
  · exact .inr ⟨ns, p, h1, h2, h3, s _ _ h3 h4⟩
theorem FitL.cutw {ls : List (List Nat)} (F : FitL ls) {l : List Nat} (h : l ∈ ls) : (cut 32 l).length ≤ 1000 ∧ l.length ≤ 900 ∧ ∀ x ∈ cut 32 l, x.length ≤ 60 := by
  have h1 := F.fit.len l h
  have h2 := cut_count (c := 32) l
  exact ⟨by omega, h1, F.wl l h⟩
theorem scBB : FnScope ["lines", "first", "at", "word", "base", "many", "bodies", "line", "body"] ["lines"] (defScope (top 75)) := ⟨rfl, rfl, rfl, by decide +kernel, rfl, by decide +kernel, by decide +kernel⟩
def spBB (K : PySem.W.Frag) : Sp := fun vs H Q _ => ∃ (a : Addr) (ls : List (List Nat)), vs = [.ref a] ∧ H a = some (.lst (wV ls)) ∧ FitL ls ∧ ∀ (t : Addr) (i b m s : Nat) (H' : Hp), Same H H' → H' t = some (.tup [.int (i : Int), .int (b : Int), .int (m : Int), .int (s : Int)]) → BkRes (bookR ls) i b m s → Q (.ref t) H'
theorem ok_bb (T : Lw P K mg w) : CalX CX0 P w K mg base 66 "_law_book_bad" (spBB K) := by
  refine cal_of T.dBookBad scBB (fun _ _ _ _ _ _ us hl => match us, hl with | [_], _ => rfl) (fun vs H Q E ⟨a, ls, e, _⟩ => by rw [e]; rfl) ?_
  rintro f cdv A outer s H vs Q E hr ⟨a, ls, rfl, ha, F, k⟩
  have B := T.t.r.f.B
  have nd := scBB.nd
  refine ⟨_, pss_cons (ps_setLc (i := 1) (own := [("line", 7)]) (by rfl) nd rfl rfl (sw_true rfl rfl rfl (by decide +kernel)) (pi_list (pe_slice sl_list (pv 0) po_none (po_some pe_int))) (blkOk_by (N := ["lines", "first", "at", "word", "base", "many", "bodies", "line", "body"]) (sc := defScope (top 75)) (by decide +kernel))
      (fun _ _ _ _ _ => pg_name (i := 7) nd rfl (Or.inl rfl)) (fun _ _ _ _ _ => pts_nil) (fun _ _ _ _ _ => pe_cx (ok_ldg T) hr pass0 (by rfl) (pa_cons (pe_slice (sl_listK K rfl) (pe_split (pv 7) pe_str) (po_some pe_int) po_none) pa_nil)))
    (pss_cons (ps_for (passes_of rfl) rfl (pi_enumT (by rfl) B.enumerate_ (pa_cons (pe_tup (pa_cons pe_str (pa_cons pe_str pa_nil))) pa_nil)) (pg_tup rfl (pgs_cons (pg_name (i := 2) nd rfl (Or.inl rfl)) (pgs_cons (pg_name (i := 3) nd rfl (Or.inl rfl)) pgs_nil)))
      (pss_cons (ps_if (PW.pt (pw_or (pt_cmpR op_le (pe_callB call_len (by rfl) B.len_ PySem.boot_len (pa_cons (pv 0) pa_nil)) (pv 2) (nomark _))
          (pw_or (pt_cmpR op_ne (pe_ix ix_list (pe_split (pe_ix ix_list (pv 0) (pv 2) (fun _ _ => rfl)) pe_str) pe_int (fun _ _ => rfl)) (pv 3) (nomark _))
          (pw_or (pt_cmpR op_isN1 (pe_ix ix_list (pv 1) (pv 2) (fun _ _ => rfl)) pe_non (nomark _))
          (pw_or1 (pt_cmpR op_ne (pe_callB call_len (by rfl) B.len_ PySem.boot_len (pa_cons (pe_ix ix_list (pv 1) (pv 2) (fun _ _ => rfl)) pa_nil)) pe_int (nomark _))))))) (pss_one (ps_ret (pe_tup (pa_cons (pv 2) (pa_cons pe_int (pa_cons pe_int (pa_cons pe_int pa_nil))))))) pss_nil)
      (pss_one (ps_if (pt_not (pt_chain op_le op_le (pe_ix ix_tup (pe_tup (pa_cons pe_int (pa_cons pe_int pa_nil))) (pv 2) (fun _ _ => rfl)) (pe_ix ix_list (pe_ix ix_list (pv 1) (pv 2) (fun _ _ => rfl)) pe_int (fun _ _ => rfl))
          (pe_ix ix_tup (pe_tup (pa_cons pe_int (pa_cons (pe_ix ix_list (pe_ix ix_list (pv 1) pe_int (fun _ _ => rfl)) pe_int (fun _ _ => rfl)) pa_nil))) (pv 2) (fun _ _ => rfl)))) (pss_one (ps_ret (pe_tup (pa_cons (pv 2) (pa_cons pe_int (pa_cons pe_int (pa_cons pe_int pa_nil))))))) pss_nil))))
    (pss_cons (ps_asg (pe_tup (pa_cons (pe_ix ix_list (pe_ix ix_list (pv 1) pe_int (fun _ _ => rfl)) pe_int (fun _ _ => rfl)) (pa_cons pe_int pa_nil))) (pg_tup rfl (pgs_cons (pg_name (i := 4) nd rfl (Or.inr rfl)) (pgs_cons (pg_name (i := 5) nd rfl (Or.inr rfl)) pgs_nil))))
    (pss_cons (ps_while (passes_of rfl) (PW.pt (pw_and (pt_cmpR op_lt (pe_op op_add pe_int (pv 5)) (pe_callB call_len (by rfl) B.len_ PySem.boot_len (pa_cons (pv 0) pa_nil)) (nomark _))
        (pw_and1 (pt_cmpR op_eq (pe_ix ix_list (pe_split (pe_ix ix_list (pv 0) (pe_op op_add pe_int (pv 5)) (fun _ _ => rfl)) pe_str) pe_int (fun _ _ => rfl)) pe_str (nomark _)))))
      (pss_cons (ps_set (i := 6) nd rfl (Or.inl rfl) (pe_slice sl_list (pe_split (pe_ix ix_list (pv 0) (pe_op op_add pe_int (pv 5)) (fun _ _ => rfl)) pe_str) (po_some pe_int) po_none))
      (pss_cons (ps_if (PW.pt (pw_or (pt_not (pt_chain op_le op_le pe_int (pe_callB call_len (by rfl) B.len_ PySem.boot_len (pa_cons (pv 6) pa_nil)) pe_int)) (pw_or1 (pt_cmpR op_eq (pv 5) pe_int (nomark _))))) (pss_one (ps_ret (pe_tup (pa_cons (pe_op op_add pe_int (pv 5)) (pa_cons pe_int (pa_cons pe_int (pa_cons pe_int pa_nil))))))) pss_nil)
      (pss_cons (ps_if (pt_not (pt_val (pe_callB (cr_all rfl) (by rfl) B.all_ (by decide +kernel) (pa_cons
          (pe_lc (own := [("body", 8)]) (by rfl) nd (pi_list (pv 6)) (blkOk_by (N := ["lines", "first", "at", "word", "base", "many", "bodies", "line", "body"]) (sc := defScope (top 75)) (by decide +kernel))
            (fun _ _ _ _ _ => pg_name (i := 8) nd rfl (Or.inl rfl)) (fun _ _ _ _ _ => pts_nil) (fun _ _ _ _ _ => pe_cx (ok_ig T) hr pass0 (by rfl) (pa_cons (pv 8) (pa_cons (pv 4) (pa_cons (pe_lst (pa_cons (pe_tup (pa_cons pe_str pa_nil)) (pa_cons (pe_tup (pa_cons pe_str pa_nil)) pa_nil))) (pa_cons (pv 5) pa_nil)))))) pa_nil)))) (pss_one (ps_ret (pe_tup (pa_cons (pe_op op_add pe_int (pv 5)) (pa_cons pe_int (pa_cons pe_int (pa_cons pe_int pa_nil))))))) pss_nil)
      (pss_one (ps_set (i := 5) nd rfl (Or.inr rfl) (pe_op op_add (pv 5) pe_int)))))))
    (pss_one (ps_ret (pe_tup (pa_cons (pe_op op_add pe_int (pv 5)) (pa_cons (pv 4) (pa_cons (pv 5) (pa_cons (pe_ix ix_list (pe_ix ix_list (pv 1) pe_int (fun _ _ => rfl)) pe_int (fun _ _ => rfl)) pa_nil)))))))))), ?_⟩
  refine ⟨_, rfl, _, rfl, a, _, rfl, SqL.of ha, fun q0 hq0 => ?_⟩
  rw [show cutV (wV ls) none (some 2) = wV (ls.take 2) from by rw [show (2 : Int) = ((2 : Nat) : Int) from rfl, cutVL_to, wV_take]]
  have z0 := same_upd (o := .lst (wV (ls.take 2))) hq0
  have hq0v := upd_same (H := H) (a := q0) (o := .lst (wV (ls.take 2)))
  generalize upd H q0 (.lst (wV (ls.take 2))) = H0 at z0 hq0v
  refine ⟨q0, rfl, ⟨_, SqL.of hq0v⟩, fun D hD => lc_list (K := K) (a := q0) (xs := wV (ls.take 2)) (fun (i : Nat) H' => Same H0 H' ∧ ∃ fv : List V, H' D = some (.lst fv) ∧ fv.length = i ∧ ∀ (j : Nat) (l : List Nat) (v : V), (ls.take 2)[j]? = some l → fv[j]? = some v → DgV D H' ((cut 32 l).drop 1) v)
    ⟨same_upd hD, [], upd_same, rfl, fun j l v _ h => by cases h⟩ (fun i H' _ ⟨s', _⟩ => SqL.of (s' _ _ hq0v)) ?_ ?_⟩
  · rintro i x H1 hx ⟨s1, fv, hfv, hfl, hds⟩
    rw [wV, List.getElem?_map] at hx
    obtain ⟨l, hl, rfl⟩ := Option.map_eq_some_iff.mp hx
    have hlm : l ∈ ls := List.mem_of_mem_take (List.mem_of_getElem? hl)
    have hi2 : i < 2 := by
      have := (List.getElem?_eq_some_iff.mp hl).1
      rw [List.length_take] at this
      omega
    obtain ⟨c1, c2, c3⟩ := F.cutw hlm
    refine ⟨rfl, ?_⟩
    refine tYesIf ?_
    refine ⟨_, rfl, ⟨_, rfl⟩, _, _, rfl, rfl, by decide +kernel, by rw [SX.S_len, sizeLine_eq]; omega, fun q hq => ?_⟩
    rw [spS, split_cut _ _ (by decide), ← wV_str]
    have z1 := same_upd (o := .lst (wV (cut 32 l))) hq
    refine ⟨_, rfl, q, _, rfl, SqL.of upd_same, fun q2 hq2 => ?_⟩
    rw [show cutV (wV (cut 32 l)) (some 1) none = wV ((cut 32 l).drop 1) from by rw [show (1 : Int) = ((1 : Nat) : Int) from rfl, cutVL_from, wV_drop]]
    have z2 := same_upd (o := .lst (wV ((cut 32 l).drop 1))) hq2
    refine ⟨q2, (cut 32 l).drop 1, rfl, SqL.of upd_same, by rw [List.length_drop]; omega, fun x hx => Nat.le_trans (c3 x (List.mem_of_mem_drop hx)) (by decide), fun v H2 s2 dg => ?_⟩
    have s3 := z1.trans (z2.trans s2)
    have hD2 := s3 _ _ hfv
    have hDH : H0 D = none := hD
    refine ⟨fv, hD2, by rw [sizeLine_eq]; omega, same_new (s1.trans s3) hDH, fv ++ [v], upd_same, by rw [List.length_append, hfl]; rfl, fun j l' v' hl' hv' => ?_⟩
    have bu : ∀ {o : HO}, SameBut D H2 (upd H2 D o) := but_upd SameBut.refl
    by_cases hj : j < fv.length
    · rw [List.getElem?_append_left hj] at hv'
      exact (hds j l' v' hl' hv').but (SameBut.trans (Same.but s3) bu)
    · have hj2 : j = fv.length := by
        have := (List.getElem?_eq_some_iff.mp hv').1
        rw [List.length_append, List.length_singleton] at this
        omega
      subst hj2
      rw [List.getElem?_append_right (Nat.le_refl _), Nat.sub_self] at hv'
      cases hv'
      rw [hfl, hl] at hl'
      cases hl'
      rcases dg with dg | ⟨ns, p, h1, h2, h3, h4⟩
      · exact .inl dg
      · have hp : p ≠ D := fun e => by
          rw [e] at h3
          have := (z1.trans z2) _ _ hfv
          rw [h3] at this
          cases this
        exact .inr ⟨ns, p, h1, h2, hp, bu _ _ hp h4⟩
  rintro H1 ⟨s1, fv, hfv, hfl, hds⟩
  have hfl : fv.length = (ls.take 2).length := by rw [hfl, wV, List.length_map]
  have s1 := z0.trans s1
  have L2' : 2 ≤ sizeLine := by show 2 ≤ sizeLine; decide
  have L4' : 4 ≤ sizeLine := by show 4 ≤ sizeLine; decide
  refine ⟨L2', fun tw htw => ⟨tw, _, rfl, .inl (.inl upd_same), for_enumT (xs := [.str "base", .str "settings"]) (fun i σ H' => ∃ x2 x3, σ = [some (.ref a), some (.ref D), x2, x3, none, none, none, none, none] ∧ Same H1 H' ∧ H' tw = some (.tup [.str "base", .str "settings"]) ∧ InvB ls i)
    ⟨_, _, rfl, same_upd htw, upd_same, ⟨fun h => absurd h (by decide), fun h => absurd h (by decide)⟩⟩ (fun i σ H' ⟨_, _, _, _, h, _⟩ => .inl (.inl h)) ?_ ?_⟩⟩
  · rintro i y p σ H2 hy ⟨x2, x3, rfl, s2, htwv, hinv⟩ hp
    have hi : i < 2 := (List.getElem?_eq_some_iff.mp hy).1
    have s3 := s2.trans (same_upd (o := .tup [.int (i : Nat), y]) hp)
    obtain ⟨kw, hkw⟩ : ∃ kw, kw = kwB i := ⟨_, rfl⟩
    have hyk : y = .str (SX.S kw) := by
      match i, hi, hy, hkw with
      | 0, _, hy, hkw => cases hy; rw [hkw]; decide +kernel
      | 1, _, hy, hkw => cases hy; rw [hkw]; decide +kernel
    subst hyk
    refine ⟨p, _, rfl, .inl (.inl upd_same), rfl, _, _, rfl, _, _, rfl, rfl, ?_⟩
    have htwv := same_upd (o := .tup [.int (i : Nat), .str (SX.S kw)]) hp _ _ htwv
    generalize upd H2 p _ = H3 at s3 htwv ⊢
    have bad : bookR ls = .bad i → ∀ {H4 : Hp} (t : Addr), Same H1 H4 → H4 t = none → Q (.ref t) (upd H4 t (.tup [.int (i : Int), .int 0, .int 0, .int 0])) := fun e H4 t s4 ht =>
      k t i 0 0 0 _ (s1.trans (s4.trans (same_upd ht))) upd_same (by rw [e]; exact ⟨rfl, rfl⟩)
    have haH := s1 _ _ ha
    have ha3 := s3 _ _ haH
    refine ⟨_, rfl, .ref a, _, rfl, .inl ⟨_, SqL.of ha3, rfl⟩, _, rfl, _, _, rfl, rfl, _, rfl, ?_⟩
    rw [show (wV ls).length = ls.length from by rw [wV, List.length_map]]
    by_cases hlen : i < ls.length
    case neg =>
      rw [show decide ((ls.length : Int) ≤ (i : Int)) = true from by simp; omega]
      have e : bookR ls = .bad i := bk_none hi hinv (by rw [List.getElem?_eq_none (by omega)]; rfl)
      exact iteT (iteT ⟨_, rfl, L4', fun t ht => bad e t s3 ht⟩)
    rw [show decide ((ls.length : Int) ≤ (i : Int)) = false from by simp; omega]
    obtain ⟨l, hl⟩ : ∃ l, ls[i]? = some l := ⟨ls[i], List.getElem?_eq_getElem hlen⟩
    have hlm := List.mem_of_getElem? hl
    obtain ⟨c1, c2, c3⟩ := F.cutw hlm
    have hwl : (wV ls)[i]? = some (.str (SX.S l)) := by rw [wV, List.getElem?_map, hl]; rfl
    obtain ⟨hd, ws, hc⟩ : ∃ hd ws, cut 32 l = hd :: ws := by
      cases e : cut 32 l with
      | nil => exact absurd e (cut_ne 32 l)
      | cons x y => exact ⟨x, y, rfl⟩
    refine iteF ⟨_, rfl, _, rfl, a, _, (i : Int), _, rfl, rfl, SqL.of ha3, atI_nat hwl, ⟨_, rfl⟩, _, _, rfl, rfl, by decide +kernel, by rw [SX.S_len, sizeLine_eq]; omega, fun q hq => ?_⟩
    rw [spS, split_cut _ _ (by decide), ← wV_str, hc]
    have z1 := same_upd (o := .lst (wV (hd :: ws))) hq
    have hqv := upd_same (H := H3) (a := q) (o := .lst (wV (hd :: ws)))
    have s4 := s3.trans z1
    have htwv := z1 _ _ htwv
    generalize upd H3 q (.lst (wV (hd :: ws))) = H4 at hqv s4 htwv ⊢
    refine ⟨q, _, 0, _, rfl, rfl, SqL.of hqv, atI_nat (j := 0) rfl, _, rfl, rfl, _, rfl, ?_⟩
    rw [eqSS]
    have et := take1_cons (k := kw) hc
    by_cases hk : hd = kw
    case neg =>
      rw [decide_eq_false hk]
      rw [if_neg hk] at et
      have e : bookR ls = .bad i := bk_none hi hinv (by rw [hl, ← hkw]; exact et)
      exact iteT (iteT ⟨_, rfl, L4', fun t ht => bad e t s4 ht⟩)
    rw [decide_eq_true hk]
    rw [if_pos hk] at et
    have hltk : (ls.take 2)[i]? = some l := by rw [List.getElem?_take_of_lt hi]; exact hl
    obtain ⟨v, hv⟩ : ∃ v, fv[i]? = some v := ⟨fv[i]'(by rw [hfl]; exact (List.getElem?_eq_some_iff.mp hltk).1), List.getElem?_eq_getElem _⟩
    have dg := (hds i l v hltk hv).but (Same.but s4)
    rw [hc, List.drop_one, List.tail_cons] at dg
    have hfv4 := s4 _ _ hfv
    refine iteF ⟨_, rfl, _, rfl, D, _, (i : Int), v, rfl, rfl, SqL.of hfv4, atI_nat hv, rfl, _, rfl, ?_⟩
    rcases dg with ⟨e1, rfl⟩ | ⟨ns, p1, e1, rfl, hpD, hp1⟩
    · rw [e1] at et
      have e : bookR ls = .bad i := bk_none hi hinv (by rw [hl, ← hkw]; exact et)
      exact iteT (iteT ⟨_, rfl, L4', fun t ht => bad e t s4 ht⟩)
    refine iteF ⟨_, rfl, _, rfl, D, _, (i : Int), _, rfl, rfl, SqL.of hfv4, atI_nat hv, .ref p1, _, rfl, .inl ⟨_, SqL.of hp1, rfl⟩, rfl, _, rfl, ?_⟩
    rw [show (nV ns).length = ns.length from by rw [nV, List.length_map]]
    rw [e1] at et
    by_cases hn1 : ns.length = 1
    case neg =>
      rw [show decide (V.int (ns.length : Int) = V.int 1) = false from by simp; omega]
      have e : bookR ls = .bad i := bk_none hi hinv (by
        rw [hl, ← hkw, et]
        match ns, hn1 with
        | [], _ => rfl
        | [_], h => exact absurd rfl h
        | _ :: _ :: _, _ => rfl)
      exact iteT ⟨_, rfl, L4', fun t ht => bad e t s4 ht⟩
    rw [show decide (V.int (ns.length : Int) = V.int 1) = true from by simp; omega]
    obtain ⟨n, rfl⟩ : ∃ n, ns = [n] := List.length_eq_one_iff.mp hn1
    have et : take1 (kwB i) ls[i]? = some n := by rw [hl, ← hkw]; exact et
    obtain ⟨n0, hn0, hb1, hb2⟩ := bk_some hi hinv et
    have hlo : [V.int 2, .int 1][i]? = some (.int (loB i : Nat)) := by
      match i, hi with
      | 0, _ => rfl
      | 1, _ => rfl
    have hhi : [V.int 3, .int (n0 : Nat)][i]? = some (.int (hiB n0 i : Nat)) := by
      match i, hi with
      | 0, _ => rfl
      | 1, _ => rfl
    obtain ⟨p0, hv0, hp0⟩ : ∃ p0, fv[0]? = some (.ref p0) ∧ H4 p0 = some (.lst [.int (n0 : Nat)]) := by
      obtain ⟨l0, hl0⟩ : ∃ l0, ls[0]? = some l0 := ⟨ls[0], List.getElem?_eq_getElem (by omega)⟩
      obtain ⟨h0, ws0, hc0⟩ : ∃ hd ws, cut 32 l0 = hd :: ws := by
        cases e : cut 32 l0 with
        | nil => exact absurd e (cut_ne 32 l0)
        | cons x y => exact ⟨x, y, rfl⟩
      have hlt0 : (ls.take 2)[0]? = some l0 := by rw [List.getElem?_take_of_lt (by decide)]; exact hl0
      obtain ⟨v, hv⟩ : ∃ v, fv[0]? = some v := ⟨fv[0]'(by rw [hfl]; exact (List.getElem?_eq_some_iff.mp hlt0).1), List.getElem?_eq_getElem _⟩
      have dg := (hds 0 l0 v hlt0 hv).but (Same.but s4)
      rw [hc0, List.drop_one, List.tail_cons] at dg
      rw [hl0, take1_cons hc0] at hn0
      split at hn0
      case isFalse => cases hn0
      rcases dg with ⟨e1, rfl⟩ | ⟨ns, p1, e1, rfl, hpD, hp1⟩
      · rw [e1] at hn0; cases hn0
      · rw [e1] at hn0
        match ns, hn0 with
        | [m], hn0 => cases hn0; exact ⟨p1, hv, hp1⟩
    refine iteF ⟨L2', fun t1 ht1 => ?_⟩
    have w1 := same_upd (o := .tup [.int 2, .int 1]) ht1
    have y1 := upd_same (H := H4) (a := t1) (o := .tup [.int 2, .int 1])
    have hfv4 := w1 _ _ hfv4
    have hp1 := w1 _ _ hp1
    have hp0 := w1 _ _ hp0
    have s5 := s4.trans w1
    have htwv := w1 _ _ htwv
    generalize upd H4 t1 (.tup [.int 2, .int 1]) = H5 at y1 hfv4 hp1 hp0 s5 htwv ⊢
    refine ⟨_, rfl, t1, _, (i : Int), .int (loB i : Nat), rfl, rfl, .inl (.inl y1), atI_nat hlo, _, rfl, _, rfl, D, _, (i : Int), .ref p1, rfl, rfl, SqL.of hfv4, atI_nat hv, p1, _, 0, .int (n : Int), rfl, rfl, SqL.of hp1, atI_nat (j := 0) rfl, _, _, rfl, rfl, _, rfl, ?_⟩
    by_cases hA : loB i ≤ n
    case neg =>
      rw [show decide (((loB i : Nat) : Int) ≤ (n : Int)) = false from by simp; omega]
      exact iteF ⟨false, rfl, iteT ⟨_, rfl, L4', fun t ht => bad (hb1 (by omega)) t s5 ht⟩⟩
    rw [show decide (((loB i : Nat) : Int) ≤ (n : Int)) = true from by simp; omega]
    refine iteT ⟨_, rfl, D, _, 0, .ref p0, rfl, rfl, SqL.of hfv4, atI_nat (j := 0) hv0, p0, _, 0, .int (n0 : Int), rfl, rfl, SqL.of hp0, atI_nat (j := 0) rfl, L2', fun t2 ht2 => ?_⟩
    have w2 := same_upd (o := .tup [.int 3, .int (n0 : Int)]) ht2
    have y2 := upd_same (H := H5) (a := t2) (o := .tup [.int 3, .int (n0 : Int)])
    have s6 := s5.trans w2
    have htwv := w2 _ _ htwv
    generalize upd H5 t2 (.tup [.int 3, .int (n0 : Int)]) = H6 at y2 s6 htwv ⊢
    refine ⟨_, rfl, t2, _, (i : Int), .int (hiB n0 i : Nat), rfl, rfl, .inl (.inl y2), atI_nat hhi, _, _, rfl, rfl, _, rfl, ?_⟩
    by_cases hB : n ≤ hiB n0 i
    case neg =>
      rw [show decide ((n : Int) ≤ ((hiB n0 i : Nat) : Int)) = false from by simp; omega]
      exact iteT ⟨_, rfl, L4', fun t ht => bad (hb1 (by omega)) t s6 ht⟩
    rw [show decide ((n : Int) ≤ ((hiB n0 i : Nat) : Int)) = true from by simp; omega]
    exact iteF ⟨_, _, rfl, s6, htwv, hb2 ⟨hA, hB⟩⟩
  · rintro σ H2 ⟨x2, x3, rfl, s2, htwv, hinv⟩
    obtain ⟨b, st, hb, hst, hst1, hst2⟩ := hinv.2 (Nat.le_refl _)
    obtain ⟨b', hb', hb2, hb3⟩ := hinv.1 (by decide)
    rw [hb] at hb'
    cases hb'
    have fst : ∀ {j n : Nat} {k : List Nat}, j < 2 → take1 k ls[j]? = some n → ∃ p, fv[j]? = some (.ref p) ∧ H2 p = some (.lst [.int (n : Nat)]) := by
      intro j n k hj hn
      cases hl : ls[j]? with
      | none => rw [hl] at hn; cases hn
      | some l =>
        obtain ⟨h0, ws0, hc0⟩ : ∃ hd ws, cut 32 l = hd :: ws := by
          cases e : cut 32 l with
          | nil => exact absurd e (cut_ne 32 l)
          | cons x y => exact ⟨x, y, rfl⟩
        have hlt0 : (ls.take 2)[j]? = some l := by rw [List.getElem?_take_of_lt hj]; exact hl
        obtain ⟨v, hv⟩ : ∃ v, fv[j]? = some v := ⟨fv[j]'(by rw [hfl]; exact (List.getElem?_eq_some_iff.mp hlt0).1), List.getElem?_eq_getElem _⟩
        have dg := (hds j l v hlt0 hv).but (Same.but s2)
        rw [hc0, List.drop_one, List.tail_cons] at dg
        rw [hl, take1_cons hc0] at hn
        split at hn
        case isFalse => cases hn
        rcases dg with ⟨e1, rfl⟩ | ⟨ns, p1, e1, rfl, hpD, hp1⟩
        · rw [e1] at hn; cases hn
        · rw [e1] at hn
          match ns, hn with
          | [m], hn => cases hn; exact ⟨p1, hv, hp1⟩
    obtain ⟨pb, hvb, hpb⟩ := fst (by decide) hb
    obtain ⟨ps, hvs, hps⟩ := fst (by decide) hst
    have hfv2 := s2 _ _ hfv
    have ha2 := s2 _ _ (s1 _ _ ha)
    have ebR : bookR ls = if (funsGo b [] (ls.drop 2)).1 = true then (if (funsGo b [] (ls.drop 2)).2 = [] then .bad 2 else .ok b st (funsGo b [] (ls.drop 2)).2) else .bad (2 + (funsGo b [] (ls.drop 2)).2.length) := by
      unfold bookR
      rw [hb]
      dsimp only
      rw [if_neg (by omega), hst]
      exact if_neg (by omega)
    have sH := s1.trans s2
    refine ⟨_, rfl, D, _, 0, .ref pb, rfl, rfl, SqL.of hfv2, atI_nat (j := 0) hvb, pb, _, 0, .int (b : Int), rfl, rfl, SqL.of hpb, atI_nat (j := 0) rfl, L2', fun t0 ht0 => ⟨t0, _, rfl, .inl (.inl upd_same), rfl, _, _, rfl, _, _, rfl, rfl, ?_⟩⟩
    have w0 := same_upd (o := .tup [.int (b : Int), .int 0]) ht0
    have sH3 := sH.trans w0
    have hfv3 := w0 _ _ hfv2
    have hps3 := w0 _ _ hps
    have ha3 := w0 _ _ ha2
    generalize upd H2 t0 _ = H3 at sH3 hfv3 hps3 ha3 ⊢
    refine ⟨fun m σ H' => ∃ fs x6, σ = [some (.ref a), some (.ref D), x2, x3, some (.int (b : Int)), some (.int ((fs.length : Nat) : Int)), x6, none, none] ∧ Same H3 H' ∧ funsGo b [] (ls.drop 2) = funsGo b fs (ls.drop (2 + fs.length)) ∧ m = ls.length - (2 + fs.length) ∧ (fs = [] ∨ funsAll b fs = true),
      ⟨ls.length - 2, [], _, rfl, Same.refl _, rfl, rfl, .inl rfl⟩, ?_⟩
    rintro m σ H4 ⟨fs, x6, rfl, s4, hgo, hm, hfa⟩
    have ha4 := s4 _ _ ha3
    have hfl3 : fs.length ≤ 3 := by
      rcases hfa with rfl | h
      · exact Nat.zero_le _
      · unfold funsAll at h
        rw [Bool.and_eq_true, decide_eq_true_eq] at h
        exact h.1.2
    have fin : ∀ {H5 : Hp} (t : Addr), Same H3 H5 → funsGo b fs (ls.drop (2 + fs.length)) = (true, fs) → H5 t = none → Q (.ref t) (upd H5 t (.tup [.int (2 + ((fs.length : Nat) : Int)), .int (b : Int), .int ((fs.length : Nat) : Int), .int (st : Int)])) := fun t s5 e ht => by
      refine k t (2 + fs.length) b fs.length st _ (sH3.trans (s5.trans (same_upd ht))) upd_same ?_
      rw [ebR, hgo, e]
      by_cases hnil : fs = []
      · subst hnil
        exact ⟨rfl, rfl⟩
      · rw [if_pos rfl, if_neg hnil]
        have hl1 : 1 ≤ fs.length := by
          have := List.length_pos_iff.mpr hnil
          omega
        exact ⟨rfl, rfl, rfl, rfl, hl1, hfl3, hb2, hb3, hst1, hst2⟩
    have bad : ∀ {H5 : Hp} (t : Addr), Same H3 H5 → funsGo b fs (ls.drop (2 + fs.length)) = (false, fs) → H5 t = none → Q (.ref t) (upd H5 t (.tup [.int (2 + ((fs.length : Nat) : Int)), .int 0, .int 0, .int 0])) := fun t s5 e ht => by
      refine k t (2 + fs.length) 0 0 0 _ (sH3.trans (s5.trans (same_upd ht))) upd_same ?_
      rw [ebR, hgo, e]
      exact ⟨rfl, rfl⟩
    refine ⟨_, rfl, _, _, rfl, rfl, _, rfl, .ref a, _, rfl, .inl ⟨_, SqL.of ha4, rfl⟩, _, _, rfl, rfl, _, rfl, ?_⟩
    rw [show (wV ls).length = ls.length from by rw [wV, List.length_map]]
    by_cases hlen : 2 + fs.length < ls.length
    case neg =>
      rw [show decide ((2 : Int) + ((fs.length : Nat) : Int) < (ls.length : Int)) = false from by simp; omega]
      have e : funsGo b fs (ls.drop (2 + fs.length)) = (true, fs) := by rw [List.drop_of_length_le (by omega)]; rfl
      exact iteF (iteF ⟨_, rfl, _, _, rfl, rfl, _, rfl, _, rfl, _, rfl, D, _, 1, .ref ps, rfl, rfl, SqL.of (s4 _ _ hfv3), atI_nat (j := 1) hvs, ps, _, 0, .int (st : Int), rfl, rfl, SqL.of (s4 _ _ hps3), atI_nat (j := 0) rfl, L4', fun t ht => fin t s4 e ht⟩)
    rw [show decide ((2 : Int) + ((fs.length : Nat) : Int) < (ls.length : Int)) = true from by simp; omega]
    obtain ⟨l, hl⟩ : ∃ l, ls[2 + fs.length]? = some l := ⟨ls[2 + fs.length], List.getElem?_eq_getElem hlen⟩
    have hlm := List.mem_of_getElem? hl
    obtain ⟨c1, c2, c3⟩ := F.cutw hlm
    have hwl : (wV ls)[2 + fs.length]? = some (.str (SX.S l)) := by rw [wV, List.getElem?_map, hl]; rfl
    have hdr : ls.drop (2 + fs.length) = l :: ls.drop (2 + (fs.length + 1)) := by
      rw [List.drop_eq_getElem_cons hlen, Option.some.inj ((List.getElem?_eq_getElem hlen).symm.trans hl)]
      rfl
    rw [hdr] at fin bad hgo
    obtain ⟨hd, ws, hc⟩ : ∃ hd ws, cut 32 l = hd :: ws := by
      cases e : cut 32 l with
      | nil => exact absurd e (cut_ne 32 l)
      | cons x y => exact ⟨x, y, rfl⟩
    rw [hc] at c1 c3
    refine iteT ⟨_, rfl, _, rfl, _, _, rfl, rfl, a, _, ((2 + fs.length : Nat) : Int), _, rfl, rfl, SqL.of ha4, atI_nat hwl, ⟨_, rfl⟩, _, _, rfl, rfl, by decide +kernel, by rw [SX.S_len, sizeLine_eq]; omega, fun q hq => ?_⟩
    rw [spS, split_cut _ _ (by decide), ← wV_str, hc]
    have z1 := same_upd (o := .lst (wV (hd :: ws))) hq
    have hqv := upd_same (H := H4) (a := q) (o := .lst (wV (hd :: ws)))
    have s5 := s4.trans z1
    generalize upd H4 q (.lst (wV (hd :: ws))) = H5 at hqv s5 ⊢
    refine ⟨q, _, 0, _, rfl, rfl, SqL.of hqv, atI_nat (j := 0) rfl, rfl, _, rfl, ?_⟩
    rw [show ("function" : Str) = SX.S (cs "function") from by decide +kernel, eqSS]
    by_cases hk : hd = cs "function"
    case neg =>
      rw [decide_eq_false hk]
      have e : funsGo b fs (l :: ls.drop (2 + (fs.length + 1))) = (true, fs) := funsGo_end fun ws' h => hk (by rw [hc] at h; exact (List.cons.inj h).1)
      exact iteF ⟨_, rfl, _, _, rfl, rfl, _, rfl, _, rfl, _, rfl, D, _, 1, .ref ps, rfl, rfl, SqL.of (s5 _ _ hfv3), atI_nat (j := 1) hvs, ps, _, 0, .int (st : Int), rfl, rfl, SqL.of (s5 _ _ hps3), atI_nat (j := 0) rfl, L4', fun t ht => fin t s5 e ht⟩
    rw [decide_eq_true hk]
    subst hk
    refine iteT ⟨fun σ' H' => ∃ fs' x6, σ' = [some (.ref a), some (.ref D), x2, x3, some (.int (b : Int)), some (.int ((fs'.length : Nat) : Int)), x6, none, none] ∧ Same H3 H' ∧ funsGo b [] (ls.drop 2) = funsGo b fs' (ls.drop (2 + fs'.length)) ∧ fs'.length = fs.length + 1 ∧ funsAll b fs' = true,
      fun σ' H' ⟨fs', x6, e1, e2, e3, e4, e5⟩ => ⟨ls.length - (2 + fs'.length), by omega, fs', x6, e1, e2, e3, rfl, .inr e5⟩, ?_⟩
    have ha5 := s5 _ _ ha3
    refine ⟨_, rfl, _, rfl, _, _, rfl, rfl, a, _, ((2 + fs.length : Nat) : Int), _, rfl, rfl, SqL.of ha5, atI_nat hwl, ⟨_, rfl⟩, _, _, rfl, rfl, by decide +kernel, by rw [SX.S_len, sizeLine_eq]; omega, fun q1 hq1 => ?_⟩
    rw [split_cut _ _ (by decide), ← wV_str, hc]
    have z2 := same_upd (o := .lst (wV (cs "function" :: ws))) hq1
    refine ⟨_, rfl, q1, _, rfl, SqL.of upd_same, fun q2 hq2 => ?_⟩
    rw [show cutV (wV (cs "function" :: ws)) (some 1) none = wV ws from by rw [show (1 : Int) = ((1 : Nat) : Int) from rfl, cutVL_from, wV_drop]; rfl]
    have z3 := same_upd (o := .lst (wV ws)) hq2
    have hq2v := upd_same (H := upd H5 q1 (.lst (wV (cs "function" :: ws)))) (a := q2) (o := .lst (wV ws))
    have s6 := s5.trans (z2.trans z3)
    generalize upd (upd H5 q1 (.lst (wV (cs "function" :: ws)))) q2 (.lst (wV ws)) = H6 at hq2v s6 ⊢
    have c1 : ws.length ≤ 1000 := by rw [List.length_cons] at c1; omega
    have c3 : ∀ x ∈ ws, x.length ≤ 60 := fun x hx => c3 x (List.mem_cons_of_mem _ hx)
    have hwn : (wV ws).length = ws.length := by rw [wV, List.length_map]
    refine ⟨_, rfl, .ref q2, _, rfl, .inl ⟨_, SqL.of hq2v, rfl⟩, 1, _, rfl, rfl, _, rfl, ?_⟩
    rw [hwn]
    by_cases d1 : 1 ≤ ws.length
    case neg =>
      rw [show decide ((1 : Int) ≤ (ws.length : Int)) = false from by simp; omega]
      have e : funsGo b fs (l :: ls.drop (2 + (fs.length + 1))) = (false, fs) := funsGo_bad hc fun h => absurd h.1 d1
      exact iteF ⟨false, rfl, iteT (iteT ⟨_, rfl, _, _, rfl, rfl, L4', fun t ht => bad t s6 e ht⟩)⟩
    rw [show decide ((1 : Int) ≤ (ws.length : Int)) = true from by simp; omega]
    refine iteT ⟨_, 3, rfl, rfl, _, rfl, ?_⟩
    by_cases d3 : ws.length ≤ 3
    case neg =>
      rw [show decide ((ws.length : Int) ≤ 3) = false from by simp; omega]
      have e : funsGo b fs (l :: ls.drop (2 + (fs.length + 1))) = (false, fs) := funsGo_bad hc fun h => absurd h.2 d3
      exact iteT (iteT ⟨_, rfl, _, _, rfl, rfl, L4', fun t ht => bad t s6 e ht⟩)
    rw [show decide ((ws.length : Int) ≤ 3) = true from by simp; omega]
    refine iteF ⟨_, rfl, rfl, _, rfl, ?_⟩
    by_cases h3 : fs.length = 3
    case pos =>
      rw [show decide (V.int ((fs.length : Nat) : Int) = V.int 3) = true from by rw [h3]; rfl]
      have e : funsGo b fs (l :: ls.drop (2 + (fs.length + 1))) = (false, fs) := funsGo_bad hc fun _ h => absurd h3 h
      exact iteT ⟨_, rfl, _, _, rfl, rfl, L4', fun t ht => bad t s6 e ht⟩
    rw [show decide (V.int ((fs.length : Nat) : Int) = V.int 3) = false from by simp; omega]
    refine iteF ⟨_, rfl, q2, rfl, ⟨_, SqL.of hq2v⟩, fun D1 hD1 => lc_listS hD1 (SqL.of hq2v) ws (by simp [wV]) (by rw [sizeLine_eq]; omega) (fun x => some (.bl (isGood b fs.length wsB x))) ?_ ?_⟩
    · intro i x y H' R Rz hx hy s7 _ ks
      rw [wV, List.getElem?_map, hy] at hx
      cases hx
      have L1' : 1 ≤ sizeLine := by show 1 ≤ sizeLine; decide
      refine ⟨rfl, iteT (B := R H') ⟨_, rfl, _, rfl, L1', fun g1 hg1 => ⟨L1', fun g2 hg2 => ⟨L2', fun g3 hg3 => ?_⟩⟩⟩⟩
      have y1 := same_upd (o := .tup [.str "given"]) hg1
      have y2 := same_upd (o := .tup [.str "setting"]) hg2
      have y3 := same_upd (o := .lst [.ref g1, .ref g2]) hg3
      refine ⟨_, rfl, y, b, fs.length, g3, wsB, rfl, c3 y (List.mem_of_getElem? hy), ⟨_, SqL.of upd_same, .cons ⟨g1, rfl, y3 _ _ (y2 _ _ upd_same)⟩ (.cons ⟨g2, rfl, y3 _ _ upd_same⟩ .nil), fun u hu => ?_⟩, fun H'' s8 => ks _ _ rfl (y1.trans (y2.trans (y3.trans s8)))⟩
      simp only [wsB, List.mem_cons, List.not_mem_nil, or_false] at hu
      rcases hu with rfl | rfl <;> rfl
    intro H7 s7 hDq
    rw [List.filterMap_eq_map', show ws.map (fun x => V.bl (isGood b fs.length wsB x)) = (ws.map (isGood b fs.length wsB)).map V.bl from by rw [List.map_map]; rfl] at hDq
    refine ⟨D1, _, rfl, SqL.of hDq, _, rfl, ?_⟩
    rw [List.all_map, show (id ∘ isGood b fs.length wsB) = isGood b fs.length wsB from rfl, show ws.all (isGood b fs.length wsB) = goodWs b fs.length ws from rfl]
    have s8 := s6.trans s7
    cases hg : goodWs b fs.length ws with
    | false =>
      have e : funsGo b fs (l :: ls.drop (2 + (fs.length + 1))) = (false, fs) := funsGo_bad hc fun _ _ => hg
      exact iteT ⟨_, rfl, _, _, rfl, rfl, L4', fun t ht => bad t s8 e ht⟩
    | true =>
      obtain ⟨bs, e1, e2⟩ := funsGo_good (ls := ls.drop (2 + (fs.length + 1))) hc hfa ⟨d1, d3⟩ h3 hg
      have hlen1 : (fs ++ [bs]).length = fs.length + 1 := by rw [List.length_append, List.length_singleton]
      refine iteF ⟨_, rfl, _, _, rfl, rfl, fs ++ [bs], some (.ref q2), ?_, s8, ?_, hlen1, e1⟩
      · rw [hlen1]
        rfl
      · rw [hgo, e2, hlen1]
end
end Km
set_option Elab.async false
set_option linter.all false
set_option maxRecDepth 100000
set_option maxHeartbeats 4000000
/-! a plan's lines, as the law looks at them: plain -/
namespace Km
open PySem PySem.Spec PyProof.Rows L2
theorem asc_eq : ∀ {xs ys : List Int}, xs.Pairwise (· < ·) → ys.Pairwise (· < ·) → (∀ k, k ∈ xs ↔ k ∈ ys) → xs = ys
  | [], [], _, _, _ => rfl
  | [], y :: ys, _, _, h => by
    have := (h y).mpr (List.mem_cons_self ..)
    cases this
  | x :: xs, [], _, _, h => by
    have := (h x).mp (List.mem_cons_self ..)
    cases this
  | x :: xs, y :: ys, hx, hy, h => by
    rw [List.pairwise_cons] at hx hy
    have e : x = y := by
      rcases List.mem_cons.mp ((h x).mp (List.mem_cons_self ..)) with e | e
      · exact e
      · rcases List.mem_cons.mp ((h y).mpr (List.mem_cons_self ..)) with e' | e'
        · exact e'.symm
        · have h1 := hy.1 x e
          have h2 := hx.1 y e'
          omega
    subst e
    rw [asc_eq hx.2 hy.2 fun k => ?_]
    constructor
    · intro hk
      rcases List.mem_cons.mp ((h k).mp (List.mem_cons_of_mem _ hk)) with e | e
      · have := hx.1 k hk
        omega
      · exact e
    · intro hk
      rcases List.mem_cons.mp ((h k).mpr (List.mem_cons_of_mem _ hk)) with e | e
      · have := hy.1 k hk
        omega
      · exact e
theorem rising_iffP : ∀ ns : List Nat, rising ns = true ↔ ns.Pairwise (· < ·)
  | [] => by simp [rising]
  | [a] => by simp [rising]
  | a :: b :: r => by
    have ih := rising_iffP (b :: r)
    simp only [rising, Bool.and_eq_true, decide_eq_true_eq]
    rw [ih, List.pairwise_cons (a := a)]
    constructor
    · rintro ⟨h1, h2⟩
      refine ⟨fun x hx => ?_, h2⟩
      rcases List.mem_cons.mp hx with rfl | hx
      · exact h1
      · rw [List.pairwise_cons] at h2
        have := h2.1 x hx
        omega
    · rintro ⟨h1, h2⟩
      exact ⟨h1 b (List.mem_cons_self ..), h2⟩
def iN (ns : List Nat) : List Int := ns.map fun (n : Nat) => (n : Int)
theorem nV_iN (ns : List Nat) : nV ns = (iN ns).map V.int := by rw [iN, List.map_map]; rfl
theorem rising_int (ns : List Nat) : rising ns = true ↔ (iN ns).Pairwise (· < ·) := by
  rw [rising_iffP, iN, List.pairwise_map]
  constructor <;> exact fun h => h.imp fun h => by omega
theorem rising_sorted {ns : List Nat} {ms : List Int} (h1 : ms.Pairwise (· < ·)) (h2 : ∀ k, k ∈ ms ↔ decide (k ∈ iN ns) = true) : decide (iN ns = ms) = rising ns := by
  rw [Bool.eq_iff_iff, decide_eq_true_eq, rising_int]
  constructor
  · rintro rfl; exact h1
  · intro h; exact asc_eq h h1 fun k => by rw [h2 k, decide_eq_true_eq]
theorem cut_join (c : Nat) : ∀ l : List Nat, TL.joinL [c] (cut c l) = l
  | [] => rfl
  | x :: r => by
    have ih := cut_join c r
    unfold cut
    by_cases h : x = c
    · subst h
      rw [if_pos rfl]
      cases e : cut x r with
      | nil => exact absurd e (cut_ne x r)
      | cons p ps =>
        rw [e] at ih
        show [] ++ ([x] ++ TL.joinL [x] (p :: ps)) = _
        rw [ih]
        rfl
    · rw [if_neg h]
      cases e : cut c r with
      | nil => exact absurd e (cut_ne c r)
      | cons p ps =>
        rw [e] at ih
        cases ps with
        | nil =>
          have ih : p = r := ih
          rw [ih]
          rfl
        | cons q qs =>
          have ih : p ++ ([c] ++ TL.joinL [c] (q :: qs)) = r := ih
          show (x :: p) ++ ([c] ++ TL.joinL [c] (q :: qs)) = _
          rw [List.cons_append, ih]
theorem take1_some {k l : List Nat} {c : Nat} (h : take1 k (some l) = some c) : cut 32 l = [k, [48 + c]] := by
  cases e : cut 32 l with
  | nil => exact absurd e (cut_ne 32 l)
  | cons hd ws =>
    rw [take1_cons e] at h
    split at h
    case isFalse => cases h
    rename_i hk
    subst hk
    unfold digs at h
    by_cases hall : ws.all dg1 = true
    case neg => rw [if_neg hall] at h; cases h
    rw [if_pos hall] at h
    match ws, hall, h with
    | [x], hall, h =>
      simp only [List.map_cons, List.map_nil, Option.some.injEq] at h
      rw [List.all_eq_true] at hall
      have hx := hall x (List.mem_cons_self ..)
      match x, hx, h with
      | [d], hx, h =>
        have hx : 48 ≤ d ∧ d ≤ 57 := of_decide_eq_true hx
        have h : d - 48 = c := h
        rw [show d = 48 + c by omega]
theorem col_some {l : List Nat} {c : Nat} (h : take1 (cs "columns") (some l) = some c) : l = cs "columns" ++ [32, 48 + c] := by
  have := cut_join 32 l
  rw [take1_some h] at this
  exact this.symm
theorem col1 : take1 (cs "columns") (some (cs "columns 1")) = some 1 := by decide +kernel
theorem col2 : take1 (cs "columns") (some (cs "columns 2")) = some 2 := by decide +kernel
theorem col_no {l : List Nat} (h1 : l ≠ cs "columns 1") (h2 : l ≠ cs "columns 2") {c : Nat} (h : take1 (cs "columns") (some l) = some c) : ¬ (1 ≤ c ∧ c ≤ 2) := by
  rintro ⟨h3, h4⟩
  have := col_some h
  obtain rfl | rfl : c = 1 ∨ c = 2 := by omega
  · exact h1 (this.trans (by decide +kernel))
  · exact h2 (this.trans (by decide +kernel))
/-! things -/
def ws0 (c : Nat) : List Tr := (List.range c).map Tr.col ++ [.setting]
def kpF (fl : List Bool) (t : Nat) : Option Tr := if fl[t]? = some true then some (.kept t) else none
def kpT (fl : List Bool) (n : Nat) : List Tr := (List.range n).filterMap (kpF fl)
theorem kpT_succ (fl : List Bool) (n : Nat) : kpT fl (n + 1) = kpT fl n ++ (kpF fl n).toList := by
  unfold kpT
  rw [List.range_succ, List.filterMap_append]
  cases h : kpF fl n <;> simp [h]
theorem mem_kpT {fl : List Bool} {n t : Nat} : Tr.kept t ∈ kpT fl n ↔ t < n ∧ fl[t]? = some true := by
  unfold kpT kpF
  rw [List.mem_filterMap]
  constructor
  · rintro ⟨a, h1, h2⟩
    rw [List.mem_range] at h1
    split at h2
    · cases h2
      exact ⟨h1, by assumption⟩
    · cases h2
  · rintro ⟨h1, h2⟩
    exact ⟨t, List.mem_range.mpr h1, by rw [if_pos h2]⟩
theorem kpT_kept {fl : List Bool} {n : Nat} {u : Tr} (h : u ∈ kpT fl n) : ∃ t, u = .kept t := by
  unfold kpT kpF at h
  rw [List.mem_filterMap] at h
  obtain ⟨a, _, h2⟩ := h
  split at h2
  · cases h2; exact ⟨a, rfl⟩
  · cases h2
theorem ws_lf {c : Nat} {fl : List Bool} {n : Nat} : ∀ u ∈ ws0 c ++ kpT fl n, isLf u = true := fun u hu => by
  rcases List.mem_append.mp hu with hu | hu
  · unfold ws0 at hu
    rcases List.mem_append.mp hu with hu | hu
    · obtain ⟨a, _, rfl⟩ := List.mem_map.mp hu; rfl
    · rw [List.mem_singleton.mp hu]; rfl
  · obtain ⟨t, rfl⟩ := kpT_kept hu; rfl
theorem good_P {b m c : Nat} {fl : List Bool} (t : Tr) : goodT b m (fun x => decide (x ∈ ws0 c ++ kpT fl fl.length)) t = goodT b m (leafP c fl) t := good_congr (fun t h => by
  cases t with
  | given =>
    refine decide_eq_false fun h => ?_
    rcases List.mem_append.mp h with h | h
    · unfold ws0 at h; simp at h
    · obtain ⟨t, e⟩ := kpT_kept h; cases e
  | setting => exact decide_eq_true (List.mem_append_left _ (List.mem_append_right _ (List.mem_singleton.mpr rfl)))
  | col n =>
    show decide _ = decide _
    rw [decide_eq_decide]
    constructor
    · intro h
      rcases List.mem_append.mp h with h | h
      · unfold ws0 at h
        rcases List.mem_append.mp h with h | h
        · obtain ⟨a, ha, e⟩ := List.mem_map.mp h
          cases e
          exact List.mem_range.mp ha
        · simp at h
      · obtain ⟨t, e⟩ := kpT_kept h; cases e
    · intro h
      exact List.mem_append_left _ (List.mem_append_left _ (List.mem_map.mpr ⟨n, List.mem_range.mpr h, rfl⟩))
  | kept n =>
    show decide _ = (fl[n]? == some true)
    rw [Bool.eq_iff_iff, decide_eq_true_eq, beq_iff_eq]
    constructor
    · intro h
      rcases List.mem_append.mp h with h | h
      · unfold ws0 at h; simp at h
      · exact (mem_kpT.mp h).2
    · intro h
      exact List.mem_append_right _ (mem_kpT.mpr ⟨(List.getElem?_eq_some_iff.mp h).1, h⟩)
  | num n => cases h
  | call n a => cases h
  | bin o a b => cases h
  | whn t a b => cases h) t
theorem isGood_P {b m c : Nat} {fl : List Bool} {x : List Nat} : isGood b m (ws0 c ++ kpT fl fl.length) x = match treeOf x with | none => false | some t => goodT b m (leafP c fl) t := by
  unfold isGood
  cases treeOf x with
  | none => rfl
  | some t => exact good_P t
theorem thAll_snoc {b m c : Nat} {ths : List (Mode × Tr)} {mo : Mode} {t : Tr} (h : ths = [] ∨ thAll b m c ths = true) : thAll b m c (ths ++ [(mo, t)]) = (decide (ths.length ≤ 2) && goodT b m (leafP c (flags ths)) t) := by
  unfold thAll
  rw [thOk_app, List.length_append, List.length_singleton, List.nil_append]
  have e1 : thOk b m c (flags ths) [(mo, t)] = goodT b m (leafP c (flags ths)) t := by simp only [thOk, Bool.and_true]
  have e2 : thOk b m c [] ths = true := by
    rcases h with rfl | h
    · rfl
    · unfold thAll at h
      rw [Bool.and_eq_true] at h
      exact h.2
  rw [e1, e2, Bool.true_and]
  congr 1
  rw [decide_eq_decide]
  omega
theorem thGo_end {b m c : Nat} {ths : List (Mode × Tr)} {l : List Nat} {ls : List (List Nat)} (h : ∀ ws, cut 32 l ≠ cs "thing" :: ws) : thGo b m c ths (l :: ls) = (true, ths) := by
  unfold thGo
  cases e : cut 32 l with
  | nil => rfl
  | cons x ws =>
    dsimp only
    rw [if_neg fun hx => h ws (by rw [e, hx])]
theorem thGo_len {b m c : Nat} {ths : List (Mode × Tr)} {l : List Nat} {ls ws : List (List Nat)} (hc : cut 32 l = cs "thing" :: ws) (h : ¬ ws.length = 2) : thGo b m c ths (l :: ls) = (false, ths) := by
  unfold thGo
  rw [hc]
  dsimp only
  rw [if_pos rfl]
  match ws, h with
  | [], _ => rfl
  | [_], _ => rfl
  | [_, _], h => exact absurd rfl h
  | _ :: _ :: _ :: _, _ => rfl
theorem thGo_two {b m c : Nat} {ths : List (Mode × Tr)} {l md x : List Nat} {ls : List (List Nat)} (hc : cut 32 l = [cs "thing", md, x]) (h : ths = [] ∨ thAll b m c ths = true) :
    (modeOf md = none → thGo b m c ths (l :: ls) = (false, ths)) ∧ (ths.length = 3 → thGo b m c ths (l :: ls) = (false, ths)) ∧ (isGood b m (ws0 c ++ kpT (flags ths) ths.length) x = false → thGo b m c ths (l :: ls) = (false, ths)) ∧
    (∀ mo, modeOf md = some mo → ¬ ths.length = 3 → isGood b m (ws0 c ++ kpT (flags ths) ths.length) x = true → ∃ t, thAll b m c (ths ++ [(mo, t)]) = true ∧ thGo b m c ths (l :: ls) = thGo b m c (ths ++ [(mo, t)]) ls) := by
  have e0 : thGo b m c ths (l :: ls) = match modeOf md with
      | none => (false, ths)
      | some mo => match treeOf x with
        | none => (false, ths)
        | some t => if thAll b m c (ths ++ [(mo, t)]) = true then thGo b m c (ths ++ [(mo, t)]) ls else (false, ths) := by
    conv => lhs; unfold thGo
    rw [hc]
    dsimp only
    rw [if_pos rfl]
    all_goals rfl
  have hfl : (flags ths).length = ths.length := by unfold flags; rw [List.length_map]
  rw [← hfl, isGood_P, hfl, e0]
  refine ⟨fun e => by rw [e], fun e => ?_, fun e => ?_, fun mo e1 e2 e3 => ?_⟩
  · cases modeOf md with
    | none => rfl
    | some mo =>
      cases treeOf x with
      | none => rfl
      | some t =>
        dsimp only
        rw [thAll_snoc h, decide_eq_false (by omega)]
        rfl
  · cases modeOf md with
    | none => rfl
    | some mo =>
      cases ht : treeOf x with
      | none => rfl
      | some t =>
        rw [ht] at e
        dsimp only at e ⊢
        rw [thAll_snoc h, e, Bool.and_false]
        rfl
  · rw [e1]
    cases ht : treeOf x with
    | none => rw [ht] at e3; cases e3
    | some t =>
      rw [ht] at e3
      dsimp only at e3 ⊢
      have hall : thAll b m c (ths ++ [(mo, t)]) = true := by
        rw [thAll_snoc h, e3, Bool.and_true]
        refine decide_eq_true ?_
        rcases h with rfl | h
        · exact Nat.zero_le _
        · unfold thAll at h
          rw [Bool.and_eq_true, decide_eq_true_eq] at h
          omega
      exact ⟨t, hall, by rw [if_pos hall]⟩
theorem mode_word (md : List Nat) : inV (.str (SX.S md)) [.str "kept", .str "again", .str "check"] = (modeOf md).isSome := by
  show (("kept" : Str) == SX.S md || (("again" : Str) == SX.S md || (("check" : Str) == SX.S md || false))) = _
  rw [show ("kept" : Str) = SX.S (cs "kept") from by decide +kernel, show ("again" : Str) = SX.S (cs "again") from by decide +kernel, show ("check" : Str) = SX.S (cs "check") from by decide +kernel, SX.S_beq_eq, SX.S_beq_eq, SX.S_beq_eq, Bool.or_false]
  unfold modeOf
  by_cases h1 : md = cs "kept"
  · rw [if_pos h1, decide_eq_true h1.symm]; rfl
  · rw [if_neg h1, decide_eq_false (fun e => h1 e.symm)]
    by_cases h2 : md = cs "again"
    · rw [if_pos h2, decide_eq_true h2.symm]; rfl
    · rw [if_neg h2, decide_eq_false (fun e => h2 e.symm)]
      by_cases h3 : md = cs "check"
      · rw [if_pos h3, decide_eq_true h3.symm]; rfl
      · rw [if_neg h3, decide_eq_false (fun e => h3 e.symm)]; rfl
theorem mode_str {md : List Nat} {mo : Mode} (h : modeOf md = some mo) : SX.S md = mo.str := by
  unfold modeOf at h
  split at h
  · cases h; rename_i e; rw [e]; decide +kernel
  · split at h
    · cases h; rename_i e; rw [e]; decide +kernel
    · split at h
      · cases h; rename_i e; rw [e]; decide +kernel
      · cases h
theorem mode_kept (mo : Mode) : decide (V.str mo.str = V.str "kept") = decide (mo = .kept) := by cases mo <;> decide +kernel
/-! the rest -/
def kwP : Nat → List Nat
  | 0 => cs "free"
  | 1 => cs "writers"
  | _ => cs "askers"
def mostP (m s : Nat) : Nat → Nat
  | 0 => m
  | _ => s
def eP : Nat → Bool
  | 0 => true
  | _ => false
def pbV (ls : List (List Nat)) : Int := match planAt ls true with
  | some n => (n : Int)
  | none => -1
theorem pb_bad {ls : List (List Nat)} {a : Nat} (h : bookR ls = .bad a) : pbV ls = (a : Int) := by unfold pbV planAt; rw [h]
theorem pb_col {ls : List (List Nat)} {b s : Nat} {fs : List (List Tr)} (h : bookR ls = .ok b s fs) (h2 : ∀ c, take1 (cs "columns") ls[2 + fs.length]? = some c → ¬ (1 ≤ c ∧ c ≤ 2)) : pbV ls = ((2 + fs.length : Nat) : Int) := by
  unfold pbV planAt
  rw [h]
  dsimp only
  cases e : take1 (cs "columns") ls[2 + fs.length]? with
  | none => rfl
  | some c => dsimp only; rw [if_pos (h2 c e)]
section
variable {ls : List (List Nat)} {b s c : Nat} {fs : List (List Tr)}
theorem pb_th (h : bookR ls = .ok b s fs) (h2 : take1 (cs "columns") ls[2 + fs.length]? = some c) (h3 : 1 ≤ c ∧ c ≤ 2) {ths : List (Mode × Tr)} (h4 : thGo b fs.length c [] (ls.drop (3 + fs.length)) = (false, ths)) : pbV ls = ((3 + fs.length + ths.length : Nat) : Int) := by
  unfold pbV planAt
  rw [h]
  dsimp only
  rw [h2]
  dsimp only
  rw [if_neg (not_not_intro h3), h4]
  rfl
theorem pb_no (h : bookR ls = .ok b s fs) (h2 : take1 (cs "columns") ls[2 + fs.length]? = some c) (h3 : 1 ≤ c ∧ c ≤ 2) (h4 : thGo b fs.length c [] (ls.drop (3 + fs.length)) = (true, [])) : pbV ls = ((3 + fs.length : Nat) : Int) := by
  unfold pbV planAt
  rw [h]
  dsimp only
  rw [h2]
  dsimp only
  rw [if_neg (not_not_intro h3), h4]
  rfl
def okP (ls : List (List Nat)) (m s a i : Nat) : Bool := someOk (kwP i) (mostP m s i) (eP i) ls[a + i]?
theorem pb_rest (h : bookR ls = .ok b s fs) (h2 : take1 (cs "columns") ls[2 + fs.length]? = some c) (h3 : 1 ≤ c ∧ c ≤ 2) {ths : List (Mode × Tr)} (h4 : thGo b fs.length c [] (ls.drop (3 + fs.length)) = (true, ths)) (h5 : ths ≠ []) :
    planAt ls true = if okP ls fs.length s (3 + fs.length + ths.length) 0 = false then some (3 + fs.length + ths.length) else if okP ls fs.length s (3 + fs.length + ths.length) 1 = false then some (3 + fs.length + ths.length + 1) else if okP ls fs.length s (3 + fs.length + ths.length) 2 = false then some (3 + fs.length + ths.length + 2) else
      if 3 + fs.length + ths.length + 3 < ls.length then some (3 + fs.length + ths.length + 3) else none := by
  unfold planAt
  rw [h]
  dsimp only
  rw [h2]
  dsimp only
  rw [if_neg (not_not_intro h3), h4]
  dsimp only
  rw [if_neg (show ¬ (true = false) by decide), if_neg h5]
  have e : (3 + fs.length + ths.length + 3 < ls.length ∨ true = false) ↔ 3 + fs.length + ths.length + 3 < ls.length := by simp
  simp only [e]
  rfl
theorem pb_turn (h : bookR ls = .ok b s fs) (h2 : take1 (cs "columns") ls[2 + fs.length]? = some c) (h3 : 1 ≤ c ∧ c ≤ 2) {ths : List (Mode × Tr)} (h4 : thGo b fs.length c [] (ls.drop (3 + fs.length)) = (true, ths)) (h5 : ths ≠ []) {i : Nat} (hi : i < 3)
    (h6 : ∀ j, j < i → okP ls fs.length s (3 + fs.length + ths.length) j = true) (h7 : okP ls fs.length s (3 + fs.length + ths.length) i = false) : pbV ls = ((3 + fs.length + ths.length + i : Nat) : Int) := by
  unfold pbV
  rw [pb_rest h h2 h3 h4 h5]
  match i, hi with
  | 0, _ => rw [if_pos h7]; rfl
  | 1, _ => rw [h6 0 (by decide), if_neg (by decide), if_pos h7]
  | 2, _ => rw [h6 0 (by decide), if_neg (by decide), h6 1 (by decide), if_neg (by decide), if_pos h7]
theorem pb_end (h : bookR ls = .ok b s fs) (h2 : take1 (cs "columns") ls[2 + fs.length]? = some c) (h3 : 1 ≤ c ∧ c ≤ 2) {ths : List (Mode × Tr)} (h4 : thGo b fs.length c [] (ls.drop (3 + fs.length)) = (true, ths)) (h5 : ths ≠ [])
    (h6 : ∀ j, j < 3 → okP ls fs.length s (3 + fs.length + ths.length) j = true) : pbV ls = if 3 + fs.length + ths.length + 3 < ls.length then ((3 + fs.length + ths.length + 3 : Nat) : Int) else -1 := by
  unfold pbV
  rw [pb_rest h h2 h3 h4 h5, h6 0 (by decide), if_neg (by decide), h6 1 (by decide), if_neg (by decide), h6 2 (by decide), if_neg (by decide)]
  by_cases h : 3 + fs.length + ths.length + 3 < ls.length
  · rw [if_pos h, if_pos h]
  · rw [if_neg h, if_neg h]
end
end Km
set_option Elab.async false
set_option linter.all false
set_option maxRecDepth 100000
set_option maxHeartbeats 4000000
/-! the law's look at a plan's lines -/
namespace Km
open PySem PySem.Spec PyProof.Rows L2
theorem in_cols (l : List Nat) : inV (.str (SX.S l)) [.str "columns 1", .str "columns 2"] = (decide (l = cs "columns 1") || decide (l = cs "columns 2")) := by
  show (("columns 1" : Str) == SX.S l || (("columns 2" : Str) == SX.S l || false)) = _
  rw [show ("columns 1" : Str) = SX.S (cs "columns 1") from by decide +kernel, show ("columns 2" : Str) = SX.S (cs "columns 2") from by decide +kernel, SX.S_beq_eq, SX.S_beq_eq, Bool.or_false]
  simp only [eq_comm]
theorem upd_sameN {H : Hp} {a : Addr} {o : HO} (_ : H a = none) : upd H a o a = some o := upd_same
theorem cutG {R : Prop} (F : Hp → Prop) (G : Hp → Prop) (main : (∀ H', F H' → G H') → R) (after : ∀ H', F H' → G H') : R := main after
theorem cutV2 {R : Prop} (F : V → Hp → Prop) (G : V → Hp → Prop) (main : (∀ v H', F v H' → G v H') → R) (after : ∀ v H', F v H' → G v H') : R := main after
theorem eqv_ints : ∀ ns ms : List Int, PyData.eqv (.list (ns.map PyData.int)) (.list (ms.map PyData.int)) = decide (ns = ms)
  | [], [] => by simp [PyData.eqv, PyData.eqvAll]
  | [], _ :: _ => by simp [PyData.eqv, PyData.eqvAll]
  | _ :: _, [] => by simp [PyData.eqv, PyData.eqvAll]
  | n :: ns, m :: ms => by
    have ih := eqv_ints ns ms
    simp only [PyData.eqv] at ih
    simp only [PyData.eqv, List.map_cons, PyData.eqvAll, ih]
    rw [Bool.eq_iff_iff]
    simp
theorem rising_last {ns : List Nat} {x : Nat} (h : rising (ns ++ [x]) = true) : ∀ y ∈ ns, y < x := by
  rw [rising_iffP, List.pairwise_append] at h
  exact fun y hy => h.2.2 y hy x (List.mem_singleton.mpr rfl)
theorem some_cons {k hd l : List Nat} {ws : List (List Nat)} {m : Nat} {e : Bool} (hc : cut 32 l = hd :: ws) : someOk k m e (some l) = if hd = k then (match digs ws with | none => false | some ns => risOk m ns && (e || !ns.isEmpty)) else false := by
  have h0 : takeL k (some l) = if hd = k then digs ws else none := by
    show takeW k (cut 32 l) = _
    rw [hc]
    rfl
  unfold someOk
  rw [h0]
  by_cases h : hd = k
  · rw [if_pos h, if_pos h]
    all_goals (cases digs ws <;> rfl)
  · rw [if_neg h, if_neg h]
theorem digs_le9 {ws : List (List Nat)} {ns : List Nat} (h : digs ws = some ns) : ns.length = ws.length ∧ ∀ n ∈ ns, n ≤ 9 := by
  unfold digs at h
  by_cases hall : ws.all dg1 = true
  case neg => rw [if_neg hall] at h; cases h
  rw [if_pos hall] at h
  cases h
  refine ⟨List.length_map _, fun n hn => ?_⟩
  obtain ⟨x, hx, rfl⟩ := List.mem_map.mp hn
  have := List.all_eq_true.mp hall x hx
  match x, this with
  | [d], this =>
    have : 48 ≤ d ∧ d ≤ 57 := of_decide_eq_true this
    show d - 48 ≤ 9
    omega
def mdV (ths : List (Mode × Tr)) : List V := ths.map fun p => V.str p.1.str
section
variable {P : Program} {w : World} {K : PySem.W.Frag} {mg : Str → Option Value} {base : Heap}
def mdD (ths : List (Mode × Tr)) : List PyData := ths.map fun p => PyData.str p.1.str
theorem dp_md {H : Hp} : ∀ ths : List (Mode × Tr), DpAll K H (mdV ths) (mdD ths)
  | [] => .nil
  | p :: ths => .cons (.str _) (dp_md ths)
theorem shaped_md (ths : List (Mode × Tr)) : SeqAt.shaped (.list (mdD ths)) = true := by
  have h1 : ∀ ths : List (Mode × Tr), PyData.canLayAll0 (mdD ths) = true ∧ PyData.depthAll (mdD ths) ≤ 10 := by
    intro ths
    induction ths with
    | nil => exact ⟨rfl, by decide⟩
    | cons p ths ih =>
      obtain ⟨i1, i2⟩ := ih
      obtain ⟨mo, t⟩ := p
      have a1 : (PyData.str mo.str).canLay0 = true := by cases mo <;> simp [PyData.canLay0] <;> decide +kernel
      have a2 : (PyData.str mo.str).depth ≤ 5 := by simp [PyData.depth]
      refine ⟨by simp only [mdD, List.map_cons, PyData.canLayAll0, a1, Bool.true_and]; exact i1, ?_⟩
      simp only [mdD, List.map_cons, PyData.depthAll]
      simp only [mdD] at i2
      omega
  obtain ⟨i1, i2⟩ := h1 ths
  simp only [SeqAt.shaped, Bool.and_eq_true, decide_eq_true_eq]
  refine ⟨by simpa [PyData.canLay0] using i1, ?_⟩
  simp only [PyData.depth]
  omega
theorem eqv_md (ths : List (Mode × Tr)) : PyData.eqv (.list (mdD ths)) (.list (([] : List Int).map PyData.int)) = ths.isEmpty := by
  cases ths <;> simp [mdD, PyData.eqv, PyData.eqvAll]
theorem scPB : FnScope ["lines", "at", "base", "many", "settings", "words", "modes", "row", "kept", "word", "most", "some", "c", "t"] ["lines"] (defScope (top 76)) := ⟨rfl, rfl, rfl, by decide +kernel, rfl, by decide +kernel, by decide +kernel⟩
def spPB : Sp := fun vs H Q _ => ∃ (a : Addr) (ls : List (List Nat)), vs = [.ref a] ∧ H a = some (.lst (wV ls)) ∧ FitL ls ∧ ∀ H', Same H H' → Q (.int (pbV ls)) H'
theorem ok_pb (T : Lw P K mg w) : CalX CX0 P w K mg base 67 "_law_plan_bad" spPB := by
  refine cal_of T.dPlanBad scPB (fun _ _ _ _ _ _ us hl => match us, hl with | [_], _ => rfl) (fun vs H Q E ⟨a, ls, e, _⟩ => by rw [e]; rfl) ?_
  rintro f cdv A outer s H vs Q E hr ⟨a, ls, rfl, ha, F, k⟩
  have B := T.t.r.f.B
  have nd := scPB.nd
  refine ⟨_, (pss_cons (ps_asg (pe_cx (ok_bb T) hr pass0 (by rfl) (pa_cons (pv 0) pa_nil)) (pg_tup rfl (pgs_cons (pg_name (i := 1) nd rfl (Or.inl rfl)) (pgs_cons (pg_name (i := 2) nd rfl (Or.inl rfl)) (pgs_cons (pg_name (i := 3) nd rfl (Or.inl rfl)) (pgs_cons (pg_name (i := 4) nd rfl (Or.inl rfl)) pgs_nil))))))
    (pss_cons (ps_if (pt_cmpR op_eq (pv 3) pe_int (nomark _)) (pss_one (ps_ret (pv 1))) pss_nil)
    (pss_cons (ps_if (PW.pt (pw_or (pt_cmpR op_le (pe_callB call_len (by rfl) B.len_ PySem.boot_len (pa_cons (pv 0) pa_nil)) (pv 1) (nomark _)) (pw_or1 (pt_cmpR op_notIn_seq (pe_ix ix_list (pv 0) (pv 1) (fun _ _ => rfl)) (pe_tup (pa_cons pe_str (pa_cons pe_str pa_nil))) (by rfl))))) (pss_one (ps_ret (pv 1))) pss_nil)
    (pss_cons (ps_asg (pe_tup (pa_cons (pe_op op_cat (pe_lc (own := [("c", 12)]) (by rfl) nd (pi_range1 (by rfl) B.range_ (pa_cons (pe_callTy call_int_str (by rfl) B.int_ (by decide +kernel) (pa_cons (pe_slice sl_str (pe_ix ix_list (pv 0) (pv 1) (fun _ _ => rfl)) (po_some pe_int) po_none) pa_nil)) pa_nil)) (blkOk_by (N := ["lines", "at", "base", "many", "settings", "words", "modes", "row", "kept", "word", "most", "some", "c", "t"]) (sc := defScope (top 76)) (by decide +kernel)) (fun _ _ _ _ _ => (pg_name (i := 12) nd rfl (Or.inl rfl))) (fun _ _ _ _ _ => pts_nil) (fun _ _ _ _ _ => (pe_tup (pa_cons pe_str (pa_cons (pv 12) pa_nil))))) (pe_lst (pa_cons (pe_tup (pa_cons pe_str pa_nil)) pa_nil))) (pa_cons (pe_lst pa_nil) (pa_cons (pe_op op_add (pv 1) pe_int) pa_nil)))) (pg_tup rfl (pgs_cons (pg_name (i := 5) nd rfl (Or.inl rfl)) (pgs_cons (pg_name (i := 6) nd rfl (Or.inr rfl)) (pgs_cons (pg_name (i := 1) nd rfl (Or.inl rfl)) pgs_nil)))))
    (pss_cons (ps_while (passes_of rfl) (PW.pt (pw_and (pt_cmpR op_lt (pv 1) (pe_callB call_len (by rfl) B.len_ PySem.boot_len (pa_cons (pv 0) pa_nil)) (nomark _)) (pw_and1 (pt_cmpR op_eq (pe_ix ix_list (pe_split (pe_ix ix_list (pv 0) (pv 1) (fun _ _ => rfl)) pe_str) pe_int (fun _ _ => rfl)) pe_str (nomark _))))) (pss_cons (ps_par (i := 7) (j := 8) rfl nd rfl rfl (by decide) rfl rfl (pa_cons (pe_split (pe_ix ix_list (pv 0) (pv 1) (fun _ _ => rfl)) pe_str) (pa_cons (pe_lc (own := [("t", 13)]) (by rfl) nd (pi_range1 (by rfl) B.range_ (pa_cons (pe_callB call_len (by rfl) B.len_ PySem.boot_len (pa_cons (pv 6) pa_nil)) pa_nil)) (blkOk_by (N := ["lines", "at", "base", "many", "settings", "words", "modes", "row", "kept", "word", "most", "some", "c", "t"]) (sc := defScope (top 76)) (by decide +kernel)) (fun _ _ _ _ _ => (pg_name (i := 13) nd rfl (Or.inl rfl))) (fun _ _ _ _ _ => pts_one (pt_cmpR op_eq (pe_ix (ix_listK K rfl) (pv 6) (pv 13) (fun _ _ => rfl)) pe_str (nomark _))) (fun _ _ _ _ _ => (pe_tup (pa_cons pe_str (pa_cons (pv 13) pa_nil))))) pa_nil)) (by rfl))
      (pss_cons (ps_if (PW.pt (pw_or (pt_cmpR op_ne (pe_callB call_len (by rfl) B.len_ PySem.boot_len (pa_cons (pv 7) pa_nil)) pe_int (nomark _)) (pw_or (pt_cmpR op_notIn_seq (pe_ix ix_list (pv 7) pe_int (fun _ _ => rfl)) (pe_tup (pa_cons pe_str (pa_cons pe_str (pa_cons pe_str pa_nil)))) (by rfl)) (pw_or1 (pt_cmpR op_eq (pe_callB call_len (by rfl) B.len_ PySem.boot_len (pa_cons (pv 6) pa_nil)) pe_int (nomark _)))))) (pss_one (ps_ret (pv 1))) pss_nil)
      (pss_cons (ps_if (pt_not (pt_val (pe_cx (ok_ig T) hr pass0 (by rfl) (pa_cons (pe_ix ix_list (pv 7) pe_int (fun _ _ => rfl)) (pa_cons (pv 2) (pa_cons (pe_op op_cat (pv 5) (pv 8)) (pa_cons (pv 3) pa_nil))))))) (pss_one (ps_ret (pv 1))) pss_nil)
      (pss_cons (ps_expr (pe_bm PySem.F.plainAttrs_list PySem.F.slot_list_append PySem.F.type_list_append mt_append (pv 6) (pa_cons (pe_ix ix_list (pv 7) pe_int (fun _ _ => rfl)) pa_nil)))
      (pss_one (ps_set (i := 1) nd rfl (Or.inl rfl) (pe_op op_add (pv 1) pe_int))))))))
    (pss_cons (ps_for (passes_of rfl) rfl (pi_tup (pe_tup (pa_cons (pe_tup (pa_cons pe_str (pa_cons (pv 3) pa_nil))) (pa_cons (pe_tup (pa_cons pe_str (pa_cons (pv 4) pa_nil))) (pa_cons (pe_tup (pa_cons pe_str (pa_cons (pv 4) pa_nil))) pa_nil))))) (pg_tup rfl (pgs_cons (pg_name (i := 9) nd rfl (Or.inl rfl)) (pgs_cons (pg_name (i := 10) nd rfl (Or.inl rfl)) pgs_nil))) (pss_cons (ps_set (i := 7) nd rfl (Or.inl rfl) (pe_ifExp (PW.pt (pw_and (pt_cmpR op_lt (pv 1) (pe_callB call_len (by rfl) B.len_ PySem.boot_len (pa_cons (pv 0) pa_nil)) (nomark _)) (pw_and1 (pt_cmpR (op_neD hr.units) (pv 6) (pe_lst pa_nil) (nomark _))))) (pe_split (pe_ix ix_list (pv 0) (pv 1) (fun _ _ => rfl)) pe_str) (pe_lst (pa_cons pe_str pa_nil))))
      (pss_cons (ps_set (i := 11) nd rfl (Or.inl rfl) (pe_cx (ok_ldg T) hr pass0 (by rfl) (pa_cons (pe_slice sl_list (pv 7) (po_some pe_int) po_none) pa_nil)))
      (pss_cons (ps_if (PW.pt (pw_or (pt_cmpR op_ne (pe_ix ix_list (pv 7) pe_int (fun _ _ => rfl)) (pv 9) (nomark _)) (pw_or (pt_cmpR op_isN1 (pv 11) pe_non (nomark _)) (pw_or (pt_cmpR (op_neD hr.units) (pv 11) (pe_callB (cr_sortedSet rfl) (by rfl) B.sorted_ (by decide +kernel) (pa_cons (pe_callTy (cr_setOfL rfl) (by rfl) B.set_ (by decide +kernel) (pa_cons (pv 11) pa_nil)) pa_nil)) (nomark _)) (pw_or1 (PW.pt (pw_and (pt_cmpR op_ne (pv 9) pe_str (nomark _)) (pw_and1 (pt_cmpR (op_eqD hr.units) (pv 11) (pe_lst pa_nil) (nomark _)))))))))) (pss_one (ps_ret (pv 1))) pss_nil)
      (pss_cons (ps_if (PW.pt (pw_and (pt_cmpR (op_neD hr.units) (pv 11) (pe_lst pa_nil) (nomark _)) (pw_and1 (pt_cmpR op_ge (pe_ix ix_list (pv 11) (pe_un un_neg pe_int) (fun _ _ => rfl)) (pv 10) (nomark _))))) (pss_one (ps_ret (pv 1))) pss_nil)
      (pss_one (ps_set (i := 1) nd rfl (Or.inl rfl) (pe_op op_add (pv 1) pe_int))))))))
    (pss_one (ps_ret (pe_ifExp (pt_cmpR op_lt (pv 1) (pe_callB call_len (by rfl) B.len_ PySem.boot_len (pa_cons (pv 0) pa_nil)) (nomark _)) (pv 1) (pe_un un_neg pe_int)))))))))), ?_⟩
  have L1' : 1 ≤ sizeLine := by show 1 ≤ sizeLine; decide
  have L2' : 2 ≤ sizeLine := by show 2 ≤ sizeLine; decide
  have L3' : 3 ≤ sizeLine := by show 3 ≤ sizeLine; decide
  refine ⟨_, rfl, a, ls, rfl, ha, F, fun t i b m st H1 s1 ht hres => ⟨t, _, rfl, .inl (.inl ht), rfl, _, _, rfl, _, _, rfl, _, _, rfl, _, _, rfl, rfl, ?_⟩⟩
  have ha1 := s1 _ _ ha
  refine ⟨_, rfl, rfl, _, rfl, ?_⟩
  have hwl : (wV ls).length = ls.length := by rw [wV, List.length_map]
  cases eb : bookR ls with
  | bad a0 =>
    rw [eb] at hres
    obtain ⟨rfl, rfl⟩ := hres
    refine iteT ⟨_, rfl, ?_⟩
    have := k H1 s1
    rw [pb_bad eb] at this
    exact this
  | ok b' st' fs =>
    rw [eb] at hres
    obtain ⟨rfl, rfl, rfl, rfl, hf1, hf3, hb2, hb3, hs1, hs2⟩ := hres
    rw [show decide (V.int ((fs.length : Nat) : Int) = V.int 0) = false from decide_eq_false fun e => by have := V.int.inj e; omega]
    refine iteF ⟨_, rfl, .ref a, _, rfl, .inl ⟨_, SqL.of ha1, rfl⟩, _, rfl, _, _, rfl, rfl, _, rfl, ?_⟩
    rw [hwl]
    by_cases hlen : 2 + fs.length < ls.length
    case neg =>
      rw [show decide ((ls.length : Int) ≤ ((2 + fs.length : Nat) : Int)) = true from by simp; omega]
      refine iteT (iteT ⟨_, rfl, ?_⟩)
      have := k H1 s1
      rw [pb_col eb (fun c e => by rw [List.getElem?_eq_none (show ls.length ≤ 2 + fs.length by omega)] at e; cases e)] at this
      exact this
    rw [show decide ((ls.length : Int) ≤ ((2 + fs.length : Nat) : Int)) = false from by simp; omega]
    obtain ⟨l, hl⟩ : ∃ l, ls[2 + fs.length]? = some l := ⟨ls[2 + fs.length], List.getElem?_eq_getElem hlen⟩
    have hvl : (wV ls)[2 + fs.length]? = some (.str (SX.S l)) := by rw [wV, List.getElem?_map, hl]; rfl
    refine iteF ⟨_, rfl, _, rfl, a, _, ((2 + fs.length : Nat) : Int), _, rfl, rfl, SqL.of ha1, atI_nat hvl, L2', fun t2 ht2 => ⟨t2, _, rfl, .inr (.inl (.inl upd_same)), rfl, by decide +kernel, _, rfl, ?_⟩⟩
    have z2 := same_upd (o := .tup [.str "columns 1", .str "columns 2"]) ht2
    have s2 := s1.trans z2
    have ha2 := z2 _ _ ha1
    generalize upd H1 t2 _ = H2 at s2 ha2 ⊢
    clear z2 ht2
    rw [show inV (.str (SX.S l)) [.str "columns 1", .str "columns 2"] = (decide (l = cs "columns 1") || decide (l = cs "columns 2")) from in_cols l]
    by_cases hcl : l = cs "columns 1" ∨ l = cs "columns 2"
    case neg =>
      rw [show (decide (l = cs "columns 1") || decide (l = cs "columns 2")) = false from by simpa using hcl]
      refine iteT ⟨_, rfl, ?_⟩
      have := k H2 s2
      rw [pb_col eb (fun c e => by rw [hl] at e; exact col_no (fun h => hcl (.inl h)) (fun h => hcl (.inr h)) e)] at this
      exact this
    rw [show (decide (l = cs "columns 1") || decide (l = cs "columns 2")) = true from by simpa using hcl]
    obtain ⟨c, hc1, hc2, hct, hint, h640, hlz⟩ : ∃ c : Nat, 1 ≤ c ∧ c ≤ 2 ∧ take1 (cs "columns") ls[2 + fs.length]? = some c ∧ PySem.intText? (cutS (SX.S l) (some 8) none) = some (c : Int) ∧ (cutS (SX.S l) (some 8) none).length ≤ 640 ∧ (SX.S l).length ≤ sizeLine := by
      rw [hl]
      rcases hcl with rfl | rfl
      · exact ⟨1, by decide, by decide, col1, by decide +kernel, by decide +kernel, by decide +kernel⟩
      · exact ⟨2, by decide, by decide, col2, by decide +kernel, by decide +kernel, by decide +kernel⟩
    refine iteF ⟨_, rfl, _, rfl, a, _, ((2 + fs.length : Nat) : Int), _, rfl, rfl, SqL.of ha2, atI_nat hvl, _, rfl, _, rfl, hlz, _, _, rfl, hint, h640, (c : Int), rfl, by omega, by omega, fun D1 hD1 => lc_range (n := c) (fun j H' => Same H2 H' ∧ ∃ xs, H' D1 = some (.lst xs) ∧ Paired (TreeAt H') ((List.range j).map Tr.col) xs) ⟨same_upd hD1, [], upd_same, .nil⟩ ?_ ?_⟩
    · rintro j H7 hj ⟨s7, xs1, hx1, hx3⟩
      have hx2 := Paired.len hx3
      rw [List.length_map, List.length_range] at hx2
      refine ⟨rfl, tYesIf ⟨.int (j : Int), zadd j, L2', fun t ht => ?_⟩⟩
      have v1 := same_upd (o := .tup [.str "column", .int (j : Int)]) ht
      have hxt := v1 _ _ hx1
      refine ⟨xs1, hxt, (by rw [sizeLine_eq]; omega), same_new (s7.trans v1) hD1, xs1 ++ [.ref t], upd_same, ?_⟩
      rw [List.range_succ, List.map_append]
      exact Paired.app (TreesAt.tups ((Same.tups v1).trans (tups_lst hxt)) hx3) (.cons ⟨t, rfl, tups_lst hxt _ _ (upd_same (H := H7) (a := t) (o := .tup [.str "column", .int (j : Int)]))⟩ .nil)
    rintro H3 ⟨s3, xs1, hx1, hx3⟩
    have hx2 := Paired.len hx3
    rw [List.length_map, List.length_range] at hx2
    refine ⟨L1', fun t3 ht3 => ⟨L1', fun l3 hl3 => ⟨D1, l3, xs1, [.ref t3], rfl, rfl, ?_, upd_same, (by rw [sizeLine_eq]; show _ + 1 ≤ _; omega), fun lw hlw => ?_⟩⟩⟩
    · exact (same_upd (o := .tup [.str "setting"]) ht3).trans (same_upd (o := .lst [.ref t3]) hl3) _ _ hx1
    have y1 := same_upd (o := .tup [.str "setting"]) ht3
    have y2 := same_upd (o := .lst [.ref t3]) hl3
    have y3 := same_upd (o := .lst (xs1 ++ [.ref t3])) hlw
    have y4 := y1.trans (y2.trans y3)
    have hlwv : upd (upd (upd H3 t3 (.tup [.str "setting"])) l3 (.lst [.ref t3])) lw (.lst (xs1 ++ [.ref t3])) lw = some (.lst (xs1 ++ [.ref t3])) := upd_same
    have hws : Paired (TreeAt (upd (upd (upd H3 t3 (.tup [.str "setting"])) l3 (.lst [.ref t3])) lw (.lst (xs1 ++ [.ref t3])))) (ws0 c) (xs1 ++ [.ref t3]) := Paired.app (TreesAt.tups (Same.tups y4) hx3) (.cons ⟨t3, rfl, y3 _ _ (y2 _ _ upd_same)⟩ .nil)
    have s4 := s2.trans (s3.trans y4)
    have ha4 := (s3.trans y4) _ _ ha2
    generalize upd (upd (upd H3 t3 (.tup [.str "setting"])) l3 (.lst [.ref t3])) lw (.lst (xs1 ++ [.ref t3])) = H4 at hlwv hws s4 ha4 ⊢
    have hwsl : (xs1 ++ [V.ref t3]).length = c + 1 := by rw [List.length_append, List.length_singleton]; omega
    generalize xs1 ++ [V.ref t3] = wvs at hlwv hws hwsl
    clear y1 y2 y3 y4 hx1 hx3 hx2 hlw hl3 ht3 s3
    refine ⟨Nat.zero_le _, fun ml hml => ⟨_, rfl, _, _, rfl, rfl, L3', fun tt htt => ⟨tt, _, rfl, .inl (.inl upd_same), rfl, _, _, rfl, _, _, rfl, _, _, rfl, rfl, ?_⟩⟩⟩
    have y1 := same_upd (o := .lst []) hml
    have y2 := same_upd (o := .tup [.ref lw, .ref ml, .int (((2 + fs.length : Nat) : Int) + 1)]) htt
    have y3 := y1.trans y2
    have hmH : H ml = none := Same.free s4 hml
    have hlwm : lw ≠ ml := ne_of_none hlwv hml
    have hlwv := y3 _ _ hlwv
    have hws := TreesAt.tups (Same.tups y3) hws
    have s5 := s4.trans y3
    have ha5 := y3 _ _ ha4
    have hmlv : upd (upd H4 ml (.lst [])) tt (.tup [.ref lw, .ref ml, .int (((2 + fs.length : Nat) : Int) + 1)]) ml = some (.lst []) := y2 _ _ upd_same
    generalize upd (upd H4 ml (.lst [])) tt (.tup [.ref lw, .ref ml, .int (((2 + fs.length : Nat) : Int) + 1)]) = H5 at hlwv hws s5 ha5 hmlv ⊢
    clear y1 y2 y3 htt hml
    have e3 : 3 + fs.length = 2 + fs.length + 1 := by omega
    refine ⟨fun m σ H' => ∃ ths x7 x8, σ = [some (.ref a), some (.int ((2 + fs.length + 1 + ths.length : Nat) : Int)), some (.int (b : Int)), some (.int ((fs.length : Nat) : Int)), some (.int (st : Int)), some (.ref lw), some (.ref ml), x7, x8, none, none, none, none, none] ∧ Same H H' ∧ Tups H5 H' ∧ H' lw = some (.lst wvs) ∧ H' ml = some (.lst (mdV ths)) ∧
        thGo b fs.length c [] (ls.drop (3 + fs.length)) = thGo b fs.length c ths (ls.drop (2 + fs.length + 1 + ths.length)) ∧ m = ls.length - (2 + fs.length + 1 + ths.length) ∧ (ths = [] ∨ thAll b fs.length c ths = true),
      ⟨ls.length - (2 + fs.length + 1), [], _, _, rfl, s5, Tups.refl _, hlwv, hmlv, by rw [e3]; rfl, rfl, .inl rfl⟩, ?_⟩
    rintro m σ H6 ⟨ths, x7, x8, rfl, s6, tp6, hlw6, hml6, hgo, hm, hta⟩
    have hml3 : ths.length ≤ 3 := by
      rcases hta with rfl | h
      · exact Nat.zero_le _
      · unfold thAll at h
        rw [Bool.and_eq_true, decide_eq_true_eq] at h
        exact h.1.2
    have hmdl : (mdV ths).length = ths.length := by rw [mdV, List.length_map]
    have ha6 := s6 _ _ ha
    have bad : thGo b fs.length c ths (ls.drop (2 + fs.length + 1 + ths.length)) = (false, ths) → ∀ {H' : Hp}, Same H H' → Q (.int ((2 + fs.length + 1 + ths.length : Nat) : Int)) H' := fun e H' s' => by
      have := k H' s'
      rw [pb_th eb hct ⟨hc1, hc2⟩ (hgo.trans e), e3] at this
      exact this
    refine ⟨_, rfl, _, rfl, .ref a, _, rfl, .inl ⟨_, SqL.of ha6, rfl⟩, _, _, rfl, rfl, _, rfl, ?_⟩
    rw [hwl]
    apply cutG (fun H' => Same H H' ∧ H' ml = some (.lst (mdV ths)) ∧ thGo b fs.length c ths (ls.drop (2 + fs.length + 1 + ths.length)) = (true, ths))
    case main =>
      intro after
      by_cases hlen : 2 + fs.length + 1 + ths.length < ls.length
      case neg =>
        rw [show decide (((2 + fs.length + 1 + ths.length : Nat) : Int) < (ls.length : Int)) = false from by simp; omega]
        have e : thGo b fs.length c ths (ls.drop (2 + fs.length + 1 + ths.length)) = (true, ths) := by rw [List.drop_of_length_le (by omega)]; rfl
        exact iteF (iteF (after H6 ⟨s6, hml6, e⟩))
      rw [show decide (((2 + fs.length + 1 + ths.length : Nat) : Int) < (ls.length : Int)) = true from by simp; omega]
      obtain ⟨l2, hl2⟩ : ∃ l, ls[2 + fs.length + 1 + ths.length]? = some l := ⟨ls[2 + fs.length + 1 + ths.length], List.getElem?_eq_getElem hlen⟩
      have hlm := List.mem_of_getElem? hl2
      obtain ⟨c1, c2, c3⟩ := F.cutw hlm
      have hvl2 : (wV ls)[2 + fs.length + 1 + ths.length]? = some (.str (SX.S l2)) := by rw [wV, List.getElem?_map, hl2]; rfl
      have hdr : ls.drop (2 + fs.length + 1 + ths.length) = l2 :: ls.drop (2 + fs.length + 1 + (ths.length + 1)) := by
        rw [List.drop_eq_getElem_cons hlen, Option.some.inj ((List.getElem?_eq_getElem hlen).symm.trans hl2)]
        rfl
      rw [hdr] at after bad hgo
      obtain ⟨hd, ws, hc⟩ : ∃ hd ws, cut 32 l2 = hd :: ws := by
        cases e : cut 32 l2 with
        | nil => exact absurd e (cut_ne 32 l2)
        | cons x y => exact ⟨x, y, rfl⟩
      rw [hc] at c1 c3
      refine iteT ⟨_, rfl, _, rfl, a, _, ((2 + fs.length + 1 + ths.length : Nat) : Int), _, rfl, rfl, SqL.of ha6, atI_nat hvl2, ⟨_, rfl⟩, _, _, rfl, rfl, by decide +kernel, by rw [SX.S_len, sizeLine_eq]; omega, fun q hq => ?_⟩
      rw [spS, split_cut _ _ (by decide), ← wV_str, hc]
      have z1 := same_upd (o := .lst (wV (hd :: ws))) hq
      have hqv := upd_same (H := H6) (a := q) (o := .lst (wV (hd :: ws)))
      have s7 := s6.trans z1
      have tp7 := tp6.trans (Same.tups z1)
      have hlw7 := z1 _ _ hlw6
      have hml7 := z1 _ _ hml6
      generalize upd H6 q (.lst (wV (hd :: ws))) = H7 at hqv s7 tp7 hlw7 hml7 ⊢
      refine ⟨q, _, 0, _, rfl, rfl, SqL.of hqv, atI_nat (j := 0) rfl, rfl, _, rfl, ?_⟩
      rw [show ("thing" : Str) = SX.S (cs "thing") from by decide +kernel, eqSS]
      by_cases hk : hd = cs "thing"
      case neg =>
        rw [decide_eq_false hk]
        have e : thGo b fs.length c ths (l2 :: ls.drop (2 + fs.length + 1 + (ths.length + 1))) = (true, ths) := thGo_end fun ws' h => hk (by rw [hc] at h; exact (List.cons.inj h).1)
        exact iteF (after H7 ⟨s7, hml7, e⟩)
      rw [decide_eq_true hk]
      subst hk
      refine iteT ⟨fun σ' H' => ∃ ths' x7 x8, σ' = [some (.ref a), some (.int ((2 + fs.length + 1 + ths'.length : Nat) : Int)), some (.int (b : Int)), some (.int ((fs.length : Nat) : Int)), some (.int (st : Int)), some (.ref lw), some (.ref ml), x7, x8, none, none, none, none, none] ∧ Same H H' ∧ Tups H5 H' ∧ H' lw = some (.lst wvs) ∧ H' ml = some (.lst (mdV ths')) ∧
          thGo b fs.length c [] (ls.drop (3 + fs.length)) = thGo b fs.length c ths' (ls.drop (2 + fs.length + 1 + ths'.length)) ∧ ths'.length = ths.length + 1 ∧ thAll b fs.length c ths' = true,
        fun σ' H' ⟨ths', x7, x8, e1, e2, e3, e4, e5, e6, e7, e8⟩ => ⟨ls.length - (2 + fs.length + 1 + ths'.length), by omega, ths', x7, x8, e1, e2, e3, e4, e5, e6, rfl, .inr e8⟩, ?_⟩
      clear after
      have ha7 := s7 _ _ ha
      refine ⟨_, rfl, _, rfl, a, _, ((2 + fs.length + 1 + ths.length : Nat) : Int), _, rfl, rfl, SqL.of ha7, atI_nat hvl2, ⟨_, rfl⟩, _, _, rfl, rfl, by decide +kernel, by rw [SX.S_len, sizeLine_eq]; omega, fun q1 hq1 => ?_⟩
      rw [split_cut _ _ (by decide), ← wV_str, hc]
      have z1 := same_upd (o := .lst (wV (cs "thing" :: ws))) hq1
      have hq1v := upd_same (H := H7) (a := q1) (o := .lst (wV (cs "thing" :: ws)))
      have s8 := s7.trans z1
      have tp8 := tp7.trans (Same.tups z1)
      have hlw8 := z1 _ _ hlw7
      have hml8 := z1 _ _ hml7
      generalize upd H7 q1 (.lst (wV (cs "thing" :: ws))) = H8 at hq1v s8 tp8 hlw8 hml8 ⊢
      refine ⟨_, rfl, .ref ml, _, rfl, .inl ⟨_, SqL.of hml8, rfl⟩, (ths.length : Int), by rw [hmdl], by omega, by omega, fun D2 hD2 => lc_range (n := ths.length) (fun j H' => Same H8 H' ∧ ∃ xs, H' D2 = some (.lst xs) ∧ Paired (TreeAt H') (kpT (flags ths) j) xs ∧ xs.length ≤ j) ⟨same_upd hD2, [], upd_same, .nil, Nat.le_refl _⟩ ?_ ?_⟩
      · rintro j H9 hj ⟨s9, xs2, hx1, hx3, hx2⟩
        have hmj : (mdV ths)[j]? = some (.str ths[j].1.str) := by rw [mdV, List.getElem?_map, List.getElem?_eq_getElem hj]; rfl
        have hfj : (flags ths)[j]? = some (decide (ths[j].1 = .kept)) := by rw [flags, List.getElem?_map, List.getElem?_eq_getElem hj]; rfl
        refine ⟨rfl, _, rfl, .int (j : Int), zadd j, ml, mdV ths, _, .str ths[j].1.str, rfl, rfl, SqL.of (s9 _ _ hml8), atI_nat hmj, rfl, _, rfl, ?_⟩
        rw [mode_kept, kpT_succ]
        have ekp : kpF (flags ths) j = if decide (ths[j].1 = .kept) = true then some (.kept j) else none := by
          unfold kpF
          rw [hfj]
          cases decide (ths[j].1 = .kept) <;> rfl
        rw [ekp]
        cases decide (ths[j].1 = .kept) with
        | false =>
          refine iteF ⟨s9, xs2, hx1, ?_, by omega⟩
          rw [if_neg (by decide), Option.toList_none, List.append_nil]
          exact hx3
        | true =>
          refine iteT ⟨.int (j : Int), zadd j, L2', fun t ht => ?_⟩
          have v1 := same_upd (o := .tup [.str "kept", .int (j : Int)]) ht
          have hxt := v1 _ _ hx1
          refine ⟨xs2, hxt, (by rw [sizeLine_eq]; omega), same_new (s9.trans v1) hD2, xs2 ++ [.ref t], upd_same, ?_, by rw [List.length_append, List.length_singleton]; omega⟩
          rw [if_pos rfl]
          exact Paired.app (TreesAt.tups ((Same.tups v1).trans (tups_lst hxt)) hx3) (.cons ⟨t, rfl, tups_lst hxt _ _ (upd_same (H := H9) (a := t) (o := .tup [.str "kept", .int (j : Int)]))⟩ .nil)
      rintro H9 ⟨s9, kvs, hk1, hk3, hk2⟩
      have s10 := s8.trans s9
      have tp10 := tp8.trans (Same.tups s9)
      have hq9 := s9 _ _ hq1v
      have hlw9 := s9 _ _ hlw8
      have hml9 := s9 _ _ hml8
      have hwn : (wV (cs "thing" :: ws)).length = ws.length + 1 := by rw [wV, List.length_map]; rfl
      refine ⟨_, _, rfl, _, rfl, .ref q1, _, rfl, .inl ⟨_, SqL.of hq9, rfl⟩, rfl, _, rfl, ?_⟩
      rw [hwn]
      by_cases h2 : ws.length = 2
      case neg =>
        rw [show decide (V.int ((ws.length + 1 : Nat) : Int) = V.int 3) = false from decide_eq_false fun e => by have := V.int.inj e; omega]
        exact iteT (iteT ⟨_, rfl, bad (thGo_len hc h2) s10⟩)
      rw [show decide (V.int ((ws.length + 1 : Nat) : Int) = V.int 3) = true from by rw [h2]; rfl]
      obtain ⟨md, x, rfl⟩ : ∃ md x, ws = [md, x] := by
        match ws, h2 with
        | [md, x], _ => exact ⟨md, x, rfl⟩
      obtain ⟨g1, g2, g3, g4⟩ := thGo_two (b := b) (m := fs.length) (c := c) (ls := ls.drop (2 + fs.length + 1 + (ths.length + 1))) hc hta
      refine iteF ⟨_, rfl, q1, _, 1, _, rfl, rfl, SqL.of hq9, atI_nat (j := 1) rfl, L3', fun t4 ht4 => ⟨t4, _, rfl, .inr (.inl (.inl upd_same)), rfl, by decide +kernel, _, rfl, ?_⟩⟩
      have z4 := same_upd (o := .tup [.str "kept", .str "again", .str "check"]) ht4
      have s11 := s10.trans z4
      have tp11 := tp10.trans (Same.tups z4)
      have hq10 := z4 _ _ hq9
      have hlw10 := z4 _ _ hlw9
      have hml10 := z4 _ _ hml9
      have hk1 := z4 _ _ hk1
      have hk3 := TreesAt.tups (Same.tups z4) hk3
      generalize upd H9 t4 _ = H10 at s11 tp11 hq10 hlw10 hml10 hk1 hk3 ⊢
      clear z4 ht4
      rw [mode_word]
      cases hmo : modeOf md with
      | none => exact iteT (iteT ⟨_, rfl, bad (g1 hmo) s11⟩)
      | some mo =>
        refine iteF ⟨_, rfl, .ref ml, _, rfl, .inl ⟨_, SqL.of hml10, rfl⟩, rfl, _, rfl, ?_⟩
        rw [hmdl]
        by_cases h3 : ths.length = 3
        case pos =>
          rw [show decide (V.int (ths.length : Int) = V.int 3) = true from by rw [h3]; rfl]
          exact iteT ⟨_, rfl, bad (g2 h3) s11⟩
        rw [show decide (V.int (ths.length : Int) = V.int 3) = false from decide_eq_false fun e => by have := V.int.inj e; omega]
        have hwt : Paired (TreeAt H10) (ws0 c) wvs := TreesAt.tups tp11 hws
        refine iteF ⟨_, rfl, q1, _, 2, _, rfl, rfl, SqL.of hq10, atI_nat (j := 2) rfl, _, rfl, _, rfl, _, rfl, lw, D2, wvs, kvs, rfl, rfl, hlw10, hk1, (by rw [sizeLine_eq]; omega), fun lx hlx => ?_⟩
        have z5 := same_upd (o := .lst (wvs ++ kvs)) hlx
        refine ⟨_, rfl, x, b, fs.length, lx, ws0 c ++ kpT (flags ths) ths.length, rfl, c3 x (by simp), ⟨_, SqL.of upd_same, TreesAt.tups (Same.tups z5) (Paired.app hwt hk3), ws_lf⟩, fun H11 s12 => ⟨_, rfl, ?_⟩⟩
        have s13 := s11.trans (z5.trans s12)
        cases hgd : isGood b fs.length (ws0 c ++ kpT (flags ths) ths.length) x with
        | false => exact iteT ⟨_, rfl, bad (g3 hgd) s13⟩
        | true =>
          obtain ⟨t, gt1, gt2⟩ := g4 mo hmo h3 hgd
          have z6 := z5.trans s12
          have hml11 := z6 _ _ hml10
          refine iteF ⟨_, rfl, .inl ⟨rfl, _, SqL.of hml11⟩, _, rfl, q1, _, 1, _, rfl, rfl, SqL.of (z6 _ _ hq10), atI_nat (j := 1) rfl, ml, _, _, rfl, rfl, hml11, (by rw [hmdl, sizeLine_eq]; omega), _, rfl, _, _, rfl, rfl, ths ++ [(mo, t)], some (.ref q1), some (.ref D2), ?_, same_new s13 hmH, tp11.trans ((Same.tups z6).trans (tups_lst hml11)), ?_, ?_, ?_, ?_, gt1⟩
          · rw [List.length_append, List.length_singleton]
            rfl
          · rw [upd_ne hlwm]; exact z6 _ _ hlw10
          · rw [upd_same]
            show some (HO.lst (mdV ths ++ [V.str (SX.S md)])) = _
            rw [mode_str hmo, mdV, mdV, List.map_append]
            rfl
          · rw [hgo, gt2, List.length_append, List.length_singleton]
          · rw [List.length_append, List.length_singleton]
    rintro H7 ⟨s7, hml7, hth⟩
    have hthE := hgo.trans hth
    clear bad hm s6 tp6 hlw6 hml6 ha6 hlwv hws hmlv s5 ha5
    refine ⟨_, rfl, L2', fun u1 hu1 => ⟨_, rfl, L2', fun u2 hu2 => ⟨_, rfl, L2', fun u3 hu3 => ⟨L3', fun uu huu => ⟨uu, rfl, ⟨_, .inl (.inl upd_same)⟩, ?_⟩⟩⟩⟩⟩
    have z1 := same_upd (o := .tup [.str "free", .int ((fs.length : Nat) : Int)]) hu1
    have z2 := same_upd (o := .tup [.str "writers", .int (st : Int)]) hu2
    have z3 := same_upd (o := .tup [.str "askers", .int (st : Int)]) hu3
    have z4 := same_upd (o := .tup [.ref u1, .ref u2, .ref u3]) huu
    have y1 := z4 _ _ (z3 _ _ (z2 _ _ (upd_same (H := H7) (a := u1) (o := .tup [.str "free", .int ((fs.length : Nat) : Int)]))))
    have y2 := z4 _ _ (z3 _ _ (upd_same (H := upd H7 u1 (.tup [.str "free", .int ((fs.length : Nat) : Int)])) (a := u2) (o := .tup [.str "writers", .int (st : Int)])))
    have y3 := z4 _ _ (upd_same (H := upd (upd H7 u1 (.tup [.str "free", .int ((fs.length : Nat) : Int)])) u2 (.tup [.str "writers", .int (st : Int)])) (a := u3) (o := .tup [.str "askers", .int (st : Int)]))
    have y4 := upd_same (H := upd (upd (upd H7 u1 (.tup [.str "free", .int ((fs.length : Nat) : Int)])) u2 (.tup [.str "writers", .int (st : Int)])) u3 (.tup [.str "askers", .int (st : Int)])) (a := uu) (o := .tup [.ref u1, .ref u2, .ref u3])
    have s8 := s7.trans (z1.trans (z2.trans (z3.trans z4)))
    have hml8 := (z1.trans (z2.trans (z3.trans z4))) _ _ hml7
    generalize upd (upd (upd (upd H7 u1 (.tup [.str "free", .int ((fs.length : Nat) : Int)])) u2 (.tup [.str "writers", .int (st : Int)])) u3 (.tup [.str "askers", .int (st : Int)])) uu (.tup [.ref u1, .ref u2, .ref u3]) = H8 at y1 y2 y3 y4 s8 hml8 ⊢
    clear z1 z2 z3 z4 hu1 hu2 hu3 huu s7 hml7
    have eA : 3 + fs.length + ths.length = 2 + fs.length + 1 + ths.length := by omega
    refine for_tup (xs := [.ref u1, .ref u2, .ref u3]) (fun i σ H' => ∃ x7 x8 x9 x10 x11, σ = [some (.ref a), some (.int ((2 + fs.length + 1 + ths.length + i : Nat) : Int)), some (.int (b : Int)), some (.int ((fs.length : Nat) : Int)), some (.int (st : Int)), some (.ref lw), some (.ref ml), x7, x8, x9, x10, x11, none, none] ∧ Same H8 H' ∧ (∀ j, j < i → okP ls fs.length st (3 + fs.length + ths.length) j = true) ∧ (0 < i → ths ≠ []))
      ⟨_, _, _, _, _, rfl, Same.refl _, fun j hj => absurd hj (Nat.not_lt_zero _), fun h => absurd h (Nat.lt_irrefl _)⟩ (fun i σ H' _ ⟨_, _, _, _, _, _, h, _⟩ => .inl (.inl (h _ _ y4))) ?_ ?_
    · rintro i y σ H9 hy ⟨x7, x8, x9, x10, x11, rfl, s9, hok, hne⟩
      have hi : i < 3 := (List.getElem?_eq_some_iff.mp hy).1
      obtain ⟨ui, rfl, hui⟩ : ∃ ui, y = .ref ui ∧ H9 ui = some (.tup [.str (SX.S (kwP i)), .int (mostP fs.length st i : Nat)]) := by
        match i, hi, hy with
        | 0, _, hy => cases hy; exact ⟨u1, rfl, (s9 _ _ y1).trans (by rw [show ("free" : Str) = SX.S (cs "free") from by decide +kernel]; rfl)⟩
        | 1, _, hy => cases hy; exact ⟨u2, rfl, (s9 _ _ y2).trans (by rw [show ("writers" : Str) = SX.S (cs "writers") from by decide +kernel]; rfl)⟩
        | 2, _, hy => cases hy; exact ⟨u3, rfl, (s9 _ _ y3).trans (by rw [show ("askers" : Str) = SX.S (cs "askers") from by decide +kernel]; rfl)⟩
      have s10 := s8.trans s9
      have bad : ths ≠ [] → okP ls fs.length st (3 + fs.length + ths.length) i = false → ∀ {H' : Hp}, Same H9 H' → Q (.int ((2 + fs.length + 1 + ths.length + i : Nat) : Int)) H' := fun hn e H' s' => by
        have := k H' (s10.trans s')
        rw [pb_turn eb hct ⟨hc1, hc2⟩ hthE hn hi hok e, eA] at this
        exact this
      refine ⟨ui, _, rfl, .inl (.inl hui), rfl, _, _, rfl, _, _, rfl, rfl, ?_⟩
      have ha9 := s10 _ _ ha
      have hml9 := s9 _ _ hml8
      have hml9v := hml9
      refine ⟨_, rfl, _, rfl, .ref a, _, rfl, .inl ⟨_, SqL.of ha9, rfl⟩, _, _, rfl, rfl, _, rfl, ?_⟩
      rw [hwl]
      have kwne : ([] : List Nat) ≠ kwP i := by
        match i, hi with
        | 0, _ => decide +kernel
        | 1, _ => decide +kernel
        | 2, _ => decide +kernel
      have emp : (ths = [] ∨ ls[3 + fs.length + ths.length + i]? = none) → ∀ {H2 : Hp}, Same H9 H2 → Q (.int ((2 + fs.length + 1 + ths.length + i : Nat) : Int)) H2 := by
        rintro (h | h) H2 s2'
        · have hi0 : i = 0 := by
            cases i with
            | zero => rfl
            | succ i => exact absurd h (hne (Nat.succ_pos _))
          subst hi0
          have := k H2 (s10.trans s2')
          subst h
          rw [pb_no eb hct ⟨hc1, hc2⟩ hthE, e3] at this
          exact this
        · by_cases hn : ths = []
          · have hi0 : i = 0 := by
              cases i with
              | zero => rfl
              | succ i => exact absurd hn (hne (Nat.succ_pos _))
            subst hi0
            have := k H2 (s10.trans s2')
            subst hn
            rw [pb_no eb hct ⟨hc1, hc2⟩ hthE, e3] at this
            exact this
          · exact bad hn (by unfold okP; rw [h]; rfl) s2'
      obtain ⟨FF, hFF⟩ : ∃ FF : V → Hp → Prop, FF = fun v H' => Same H9 H' ∧ ∃ q hd ws, v = .ref q ∧ H' q = some (.lst (wV (hd :: ws))) ∧ ws.length ≤ 1000 ∧ (∀ x ∈ ws, x.length ≤ 60) ∧ (hd = kwP i → ths ≠ [] ∧ ∃ l, ls[3 + fs.length + ths.length + i]? = some l ∧ cut 32 l = hd :: ws) ∧ (hd ≠ kwP i → ∀ {H2 : Hp}, Same H9 H2 → Q (.int ((2 + fs.length + 1 + ths.length + i : Nat) : Int)) H2) := ⟨_, rfl⟩
      apply cutV2 FF
      case main =>
        intro after
        by_cases hlen : 2 + fs.length + 1 + ths.length + i < ls.length
        case neg =>
          rw [show decide (((2 + fs.length + 1 + ths.length + i : Nat) : Int) < (ls.length : Int)) = false from decide_eq_false (by omega)]
          refine iteF (iteF ⟨L1', fun q hq => ?_⟩)
          have hh : FF (.ref q) (upd H9 q (.lst [.str ""])) := by
            rw [hFF]
            exact ⟨same_upd hq, q, [], [], rfl, by rw [upd_same]; rfl, Nat.zero_le _, (fun x hx => by cases hx), fun h => absurd h kwne, fun _ H2 s2' => emp (.inr (List.getElem?_eq_none (by omega))) s2'⟩
          generalize upd H9 q _ = H2 at hh ⊢
          generalize V.ref q = v at hh ⊢
          exact after v H2 hh
        rw [show decide (((2 + fs.length + 1 + ths.length + i : Nat) : Int) < (ls.length : Int)) = true from decide_eq_true (by omega)]
        refine iteT ⟨_, rfl, Nat.zero_le _, fun q0 hq0 => ⟨_, _, .lst ((same_upd hq0).seq (SqL.of hml9)) (dp_md ths), dp_intL (ns := []) (SqL.of upd_same), shaped_md ths, PySem.W.ke_shaped_ints _, _, rfl, ?_⟩⟩
        have w0 := same_upd (o := .lst []) hq0
        generalize upd H9 q0 (.lst []) = H10 at w0
        rw [eqv_md]
        cases hn : ths.isEmpty with
        | true =>
          have hn := List.isEmpty_iff.mp hn
          refine iteF ⟨L1', fun q hq => ?_⟩
          have hh : FF (.ref q) (upd H10 q (.lst [.str ""])) := by
            rw [hFF]
            exact ⟨w0.trans (same_upd hq), q, [], [], rfl, by rw [upd_same]; rfl, Nat.zero_le _, (fun x hx => by cases hx), fun h => absurd h kwne, fun _ H2 s2' => emp (.inl hn) s2'⟩
          generalize upd H10 q _ = H2 at hh ⊢
          generalize V.ref q = v at hh ⊢
          exact after v H2 hh
        | false =>
          have hn : ths ≠ [] := fun h => by rw [h] at hn; cases hn
          obtain ⟨l2, hl2⟩ : ∃ l, ls[2 + fs.length + 1 + ths.length + i]? = some l := ⟨ls[2 + fs.length + 1 + ths.length + i], List.getElem?_eq_getElem hlen⟩
          have hlm := List.mem_of_getElem? hl2
          obtain ⟨c1, c2, c3⟩ := F.cutw hlm
          have hvl2 : (wV ls)[2 + fs.length + 1 + ths.length + i]? = some (.str (SX.S l2)) := by rw [wV, List.getElem?_map, hl2]; rfl
          obtain ⟨hd, ws, hc⟩ : ∃ hd ws, cut 32 l2 = hd :: ws := by
            cases e : cut 32 l2 with
            | nil => exact absurd e (cut_ne 32 l2)
            | cons x y => exact ⟨x, y, rfl⟩
          rw [hc] at c1 c3
          refine iteT ⟨_, rfl, _, rfl, a, _, ((2 + fs.length + 1 + ths.length + i : Nat) : Int), _, rfl, rfl, SqL.of (w0 _ _ ha9), atI_nat hvl2, ⟨_, rfl⟩, _, _, rfl, rfl, by decide +kernel, by rw [SX.S_len, sizeLine_eq]; omega, fun q hq => ?_⟩
          rw [spS, split_cut _ _ (by decide), ← wV_str, hc]
          have hh : FF (.ref q) (upd H10 q (.lst (wV (hd :: ws)))) := by
            rw [hFF]
            refine ⟨w0.trans (same_upd hq), q, hd, ws, rfl, upd_same, by rw [List.length_cons] at c1; omega, fun x hx => c3 x (List.mem_cons_of_mem _ hx), fun _ => ⟨hn, l2, by rw [eA]; exact hl2, hc⟩, fun hk H2 s2' => bad hn ?_ s2'⟩
            unfold okP
            rw [eA, hl2, some_cons hc, if_neg hk]
          generalize upd H10 q _ = H2 at hh ⊢
          generalize V.ref q = v at hh ⊢
          exact after v H2 hh
      intro v H10 hh
      rw [hFF] at hh
      clear hFF
      obtain ⟨s11, q, hd, ws, rfl, hq, hwl1, hwl2, hrow, hnot⟩ := hh
      refine ⟨_, rfl, _, rfl, q, _, rfl, SqL.of hq, fun q2 hq2 => ?_⟩
      rw [show cutV (wV (hd :: ws)) (some 1) none = wV ws from by rw [show (1 : Int) = ((1 : Nat) : Int) from rfl, cutVL_from, wV_drop]; rfl]
      have w1 := same_upd (o := .lst (wV ws)) hq2
      refine ⟨q2, ws, rfl, SqL.of upd_same, by omega, fun x hx => Nat.le_trans (hwl2 x hx) (by decide), fun v H11 s12 dg => ?_⟩
      have s13 := s11.trans (w1.trans s12)
      have hq11 := (w1.trans s12) _ _ hq
      refine ⟨_, rfl, q, _, 0, _, rfl, rfl, SqL.of hq11, atI_nat (j := 0) rfl, _, rfl, rfl, _, rfl, ?_⟩
      rw [eqSS]
      by_cases hk : hd = kwP i
      case neg =>
        rw [decide_eq_false hk]
        exact iteT (iteT ⟨_, rfl, hnot hk s13⟩)
      rw [decide_eq_true hk]
      obtain ⟨hn, l2, hl2, hc⟩ := hrow hk
      have hokE : okP ls fs.length st (3 + fs.length + ths.length) i = (match digs ws with | none => false | some ns => risOk (mostP fs.length st i) ns && (eP i || !ns.isEmpty)) := by
        unfold okP
        rw [hl2, some_cons hc, if_pos hk]
      refine iteF ⟨_, rfl, rfl, _, rfl, ?_⟩
      rcases dg with ⟨e1, rfl⟩ | ⟨ns, p1, e1, rfl, hp0, hp1⟩
      · rw [e1] at hokE
        exact iteT (iteT ⟨_, rfl, bad hn hokE s13⟩)
      rw [e1] at hokE
      obtain ⟨hnl, hn9⟩ := digs_le9 e1
      rw [nV_iN] at hp1
      have hL : SqL K H11 p1 ((iN ns).map V.int) := SqL.of hp1
      have hbd : ∀ k ∈ iN ns, 0 ≤ k ∧ k < ((10 : Nat) : Int) := fun k hk => by
        obtain ⟨n, h1, rfl⟩ := List.mem_map.mp hk
        have := hn9 n h1
        omega
      have hil : (iN ns).length = ns.length := List.length_map _
      refine iteF ⟨_, rfl, _, rfl, p1, iN ns, rfl, hL, by omega, fun p c' hp hcl hcm => ⟨p, _, c', rfl, upd_same, ?_, fun ms p2 hpw hmem hlen hp2 => ?_⟩⟩
      · have := hcm 10 hbd
        omega
      have w2 := (same_upd hp).trans (same_upd (o := .lst (ms.map V.int)) hp2)
      have hp2v := upd_sameN (o := .lst (ms.map V.int)) hp2
      generalize upd (upd H11 p _) p2 (.lst (ms.map V.int)) = H12 at w2 hp2v ⊢
      have s14 := s13.trans w2
      have hL := w2.seq hL
      refine ⟨_, _, dp_intL hL, dp_intL (SqL.of hp2v), PySem.W.ke_shaped_ints _, PySem.W.ke_shaped_ints _, _, rfl, ?_⟩
      rw [eqv_ints, rising_sorted hpw hmem]
      cases hris : rising ns with
      | false => exact iteT (iteT ⟨_, rfl, bad hn (by rw [hokE]; simp [risOk, hris]) s14⟩)
      | true =>
        obtain ⟨FF, hFF⟩ : ∃ FF : Hp → Prop, FF = (fun H' => Same H9 H' ∧ SqL K H' p1 ((iN ns).map V.int) ∧ (eP i || !ns.isEmpty) = true) := ⟨_, rfl⟩
        refine iteF ⟨_, rfl, rfl, _, rfl, ?_⟩
        rw [show ("free" : Str) = SX.S (cs "free") from by decide +kernel, eqSS]
        apply cutG FF
        case main =>
          intro after
          by_cases hi0 : i = 0
          · rw [show decide (kwP i = cs "free") = true from by rw [hi0]; decide +kernel]
            have hh : FF H12 := by
              rw [hFF]
              exact ⟨s14, hL, by rw [hi0]; rfl⟩
            exact iteF (iteF (after H12 hh))
          · have hef : eP i = false := by
              match i, hi0 with
              | i + 1, _ => rfl
            rw [show decide (kwP i = cs "free") = false from decide_eq_false (by
              match i, hi, hi0 with
              | 1, _, _ => decide +kernel
              | 2, _, _ => decide +kernel)]
            refine iteT ⟨_, rfl, Nat.zero_le _, fun q0 hq0 => ⟨_, _, dp_intL ((same_upd hq0).seq hL), dp_intL (ns := []) (SqL.of upd_same), PySem.W.ke_shaped_ints _, PySem.W.ke_shaped_ints _, _, rfl, ?_⟩⟩
            have w3 := same_upd (o := .lst []) hq0
            have s15 := s14.trans w3
            rw [show PyData.eqv (.list ((iN ns).map PyData.int)) (.list ([].map PyData.int)) = (iN ns).isEmpty from eqv_nil (iN ns)]
            have hie : (iN ns).isEmpty = ns.isEmpty := by cases ns <;> rfl
            rw [hie]
            cases hem : ns.isEmpty with
            | true => exact iteT ⟨_, rfl, bad hn (by rw [hokE]; simp [hef, hem]) s15⟩
            | false =>
              have hh : FF (upd H12 q0 (.lst [])) := by
                rw [hFF]
                exact ⟨s15, w3.seq hL, by rw [hem]; simp⟩
              exact iteF (after _ hh)
        intro H13 hh
        rw [hFF] at hh
        clear hFF
        obtain ⟨s15, hL13, hemp⟩ := hh
        refine ⟨_, rfl, Nat.zero_le _, fun q0 hq0 => ⟨_, _, dp_intL ((same_upd hq0).seq hL13), dp_intL (ns := []) (SqL.of upd_same), PySem.W.ke_shaped_ints _, PySem.W.ke_shaped_ints _, _, rfl, ?_⟩⟩
        have w3 := same_upd (o := .lst []) hq0
        have s16 := s15.trans w3
        have hL14 := w3.seq hL13
        generalize upd H13 q0 (.lst []) = H14 at w3 s16 hL14 ⊢
        rw [show PyData.eqv (.list ((iN ns).map PyData.int)) (.list ([].map PyData.int)) = (iN ns).isEmpty from eqv_nil (iN ns)]
        have hie : (iN ns).isEmpty = ns.isEmpty := by cases ns <;> rfl
        rw [hie]
        have good : ns.all (fun n => decide (n < mostP fs.length st i)) = true → ∀ j, j < i + 1 → okP ls fs.length st (3 + fs.length + ths.length) j = true := fun hall j hj => by
          by_cases h : j = i
          · subst h
            rw [hokE]
            simp only [risOk, hall, hris, Bool.true_and, Bool.and_true]
            exact hemp
          · exact hok j (by omega)
        cases hem : ns.isEmpty with
        | true =>
          have hnil := List.isEmpty_iff.mp hem
          refine iteF (iteF ⟨_, rfl, _, _, rfl, rfl, _, _, _, _, _, rfl, s9.trans s16, good (by rw [hnil]; rfl), fun _ => hn⟩)
        | false =>
          have hnn : ns ≠ [] := fun h => by rw [h] at hem; cases hem
          obtain ⟨nr, nl, hnl2⟩ : ∃ nr nl, ns = nr ++ [nl] := ⟨ns.dropLast, ns.getLast hnn, (List.dropLast_concat_getLast hnn).symm⟩
          have hmap : (iN ns).map V.int = ((iN nr).map V.int) ++ [V.int (nl : Int)] := by rw [hnl2, iN, List.map_append, List.map_append]; rfl
          refine iteT ⟨_, rfl, _, rfl, p1, _, -1, .int (nl : Int), rfl, rfl, hL14, (by rw [hmap]; exact atI_last _ _), _, rfl, _, _, rfl, rfl, _, rfl, ?_⟩
          by_cases hge : mostP fs.length st i ≤ nl
          · rw [show decide (((mostP fs.length st i : Nat) : Int) ≤ (nl : Int)) = true from decide_eq_true (by omega)]
            refine iteT ⟨_, rfl, bad hn ?_ s16⟩
            rw [hokE]
            have : ns.all (fun n => decide (n < mostP fs.length st i)) = false := List.all_eq_false.mpr ⟨nl, by rw [hnl2]; simp, by simpa using hge⟩
            simp [risOk, this]
          · rw [show decide (((mostP fs.length st i : Nat) : Int) ≤ (nl : Int)) = false from decide_eq_false (by omega)]
            refine iteF ⟨_, rfl, _, _, rfl, rfl, _, _, _, _, _, rfl, s9.trans s16, good (List.all_eq_true.mpr fun y hy => decide_eq_true ?_), fun _ => hn⟩
            rw [hnl2] at hy hris
            rcases List.mem_append.mp hy with hy | hy
            · have := rising_last hris y hy
              omega
            · rw [List.mem_singleton.mp hy]
              omega
    · rintro σ H9 ⟨x7, x8, x9, x10, x11, rfl, s9, hok, hne⟩
      have s10 := s8.trans s9
      have hl3 : [V.ref u1, V.ref u2, V.ref u3].length = 3 := rfl
      rw [hl3] at hok hne ⊢
      have hP := pb_end eb hct ⟨hc1, hc2⟩ hthE (hne (by decide)) hok
      refine ⟨_, rfl, _, rfl, .ref a, _, rfl, .inl ⟨_, SqL.of (s10 _ _ ha), rfl⟩, _, _, rfl, rfl, _, rfl, ?_⟩
      have := k H9 s10
      rw [hP, eA] at this
      rw [hwl]
      by_cases hlt : 2 + fs.length + 1 + ths.length + 3 < ls.length
      · rw [if_pos hlt] at this
        rw [show decide (((2 + fs.length + 1 + ths.length + 3 : Nat) : Int) < (ls.length : Int)) = true from decide_eq_true (by omega)]
        exact iteT ⟨_, rfl, this⟩
      · rw [if_neg hlt] at this
        rw [show decide (((2 + fs.length + 1 + ths.length + 3 : Nat) : Int) < (ls.length : Int)) = false from decide_eq_false (by omega)]
        exact iteF ⟨_, rfl, this⟩
end
end Km
set_option Elab.async false
set_option linter.all false
set_option maxRecDepth 100000
set_option maxHeartbeats 4000000
/-! z[::-1], a short text -/
namespace Km
open PySem PySem.Spec PyProof.Rows L2
section
variable {X : Cx} {te : TE}
def tRevS (te : TE) : TE := fun σ H Q => te σ H fun x H1 => ∃ l : List Nat, x = .str ⟨l.toArray⟩ ∧ l.length ≤ 2 ∧ Q (.str ⟨l.reverse.toArray⟩) H1
theorem rev_idx (n : Nat) (h : n ≤ 2) : Builtin.Str.strSliceIndices none none (-1) n = (List.range n).reverse := by
  match n, h with
  | 0, _ => decide +kernel
  | 1, _ => decide +kernel
  | 2, _ => decide +kernel
theorem rev_fm (l : List Nat) (h : l.length ≤ 2) : ((List.range l.length).reverse.filterMap (fun i => l.toArray[i]?)) = l.reverse := by
  match l, h with
  | [], _ => rfl
  | [a], _ => simp [List.range_succ]
  | [a, b], _ => simp [List.range_succ]
theorem pe_revS {e : Expr} {k : Nat} {p1 p2 p3 pos : Pos} (he : PE X e te) : PE X (.Subscript e (.Slice none none (some (.UnaryOp .USub (.Constant (.int 1) k p1) p2)) p3) pos) (tRevS te) := by
  refine ⟨fun pins s σ H Q I h => ?_⟩
  refine Subscript_ (thn (he.run pins s σ H _ I h) fun v s1 ⟨x, H1, I1, r1, q1⟩ => ?_)
  obtain ⟨l, ex, hx, q⟩ := q1
  subst ex
  obtain ⟨t, rfl⟩ := r1
  have hst : PO X (some (.UnaryOp .USub (.Constant (.int 1) k p1) p2)) (tPart (tUn (rU fun i => .int (-i)) (tC (.int 1)))) := po_some (pe_un un_neg pe_int)
  refine wpAny_Slice (thn (po_none.run pins s1 σ H1 (fun o H2 => o = none ∧ H2 = H1) I1 ⟨rfl, rfl⟩) fun vl s2 ⟨lo, H2, I2, pl, el, e2⟩ => ?_)
  subst el e2
  refine thn (po_none.run pins s2 σ H2 (fun o H3 => o = none ∧ H3 = H2) I2 ⟨rfl, rfl⟩) fun vu s3 ⟨u, H3, I3, pu, eu, e3⟩ => ?_
  subst eu e3
  refine thn (hst.run pins s3 σ H3 (fun o H4 => o = some (-1) ∧ H4 = H3) I3 ⟨1, rfl, -1, rfl, rfl, rfl⟩) fun vs s4 ⟨o, H4, I4, ps, eo, e4⟩ => ?_
  subst eo e4
  have I5 : Inv X pins σ H4 { s4 with heap := s4.heap.push { cls := .type "slice", data := .fields #[vl, vu, vs] } } := I4.kept (t' := s4.toks) fun b ob q => Heap.get?_push_of_some _ q
  show wpAny (model X.prog X.w) X.A (subscriptTail e (.Slice none none (some (.UnaryOp .USub (.Constant (.int 1) k p1) p2)) p3) (.str ⟨l.toArray⟩ t) (.ref s4.heap.objs.size)) (EP X pins σ Q) X.xe { s4 with heap := s4.heap.push { cls := .type "slice", data := .fields #[vl, vu, vs] } }
  refine tail_any (ops := [.str ⟨l.toArray⟩ t, .ref s4.heap.objs.size]) (typeIs_str _ _ _) (PySem.F.slot_str_getitem.lookup) ?_ (by with_unfolding_all rfl)
  have hs := Heap.IsSliceOf.new s4.heap vl vu vs
  obtain ⟨os, hos, hcs, hds⟩ := hs
  obtain ⟨l0, rfl, e0⟩ := IsPart.raw pl
  obtain ⟨u0, rfl, e1⟩ := IsPart.raw pu
  obtain ⟨s0, rfl, e2⟩ := IsPart.raw ps
  refine wpAny_getItem_str_slice (l := l0) (u := u0) (st := s0) ⟨os, hos, hcs, hds⟩ (by rw [e2]; rfl) ?_
  have hz : (⟨l.toArray⟩ : Str).length = l.length := by unfold Str.length; simp
  have hp : slicePicked ⟨l.toArray⟩ l0 u0 s0 = (List.range l.length).reverse := by
    unfold slicePicked
    rw [e0, e1, e2, hz]
    exact rev_idx l.length hx
  have hf : ((List.range l.length).reverse.filterMap ((⟨l.toArray⟩ : Str).cps[·]?)) = l.reverse := by
    exact rev_fm l hx
  unfold sliceMade
  rw [e2, hp, if_neg (by simp), hf]
  refine ⟨?_, .str _, H4, I5.tok _, ⟨_, rfl⟩, q⟩
  have h2 : (⟨l.reverse.toArray⟩ : Str).length = l.length := by
    unfold Str.length
    simp
  rw [h2, sizeLine_eq]
  omega
end
end Km
set_option Elab.async false
set_option linter.all false
set_option maxRecDepth 100000
set_option maxHeartbeats 4000000
/-! the law's spoilt texts -/
namespace Km
open PySem PySem.Spec PyProof.Rows L2
theorem cutS_take (l : List Nat) (k : Nat) {x : Int} (hx : x = (k : Int)) : cutS (SX.S l) none (some x) = SX.S (l.take k) := by
  subst hx
  unfold cutS
  rw [HT.sIx_none, HT.sIx_nat, SX.S_len]
  show (⟨((l.drop 0).take (min k l.length - 0)).toArray⟩ : Str) = _
  rw [List.drop_zero, Nat.sub_zero]
  by_cases h : k ≤ l.length
  · rw [Nat.min_eq_left h]
    try rfl
  · rw [Nat.min_eq_right (by omega), List.take_length, List.take_of_length_le (by omega)]
    try rfl
theorem cutS_drop (l : List Nat) (k : Nat) {x : Int} (hx : x = (k : Int)) : cutS (SX.S l) (some x) none = SX.S (l.drop k) := by
  subst hx
  unfold cutS
  rw [HT.sIx_none, HT.sIx_nat, SX.S_len]
  show (⟨((l.drop (min k l.length)).take (l.length - min k l.length)).toArray⟩ : Str) = _
  by_cases h : k ≤ l.length
  · rw [Nat.min_eq_left h, List.take_of_length_le (by rw [List.length_drop]; omega)]
    try rfl
  · rw [Nat.min_eq_right (by omega), List.drop_length, List.drop_of_length_le (by omega)]
    simp [SX.S]
theorem cutS_two (l : List Nat) (k : Nat) : cutS (SX.S l) (some (k : Int)) (some ((k : Int) + 2)) = SX.S ((l.drop k).take 2) := by
  unfold cutS
  rw [show ((k : Int) + 2) = ((k + 2 : Nat) : Int) by omega, HT.sIx_nat, HT.sIx_nat, SX.S_len]
  show (⟨((l.drop (min k l.length)).take (min (k + 2) l.length - min k l.length)).toArray⟩ : Str) = _
  by_cases h : k ≤ l.length
  · rw [Nat.min_eq_left h]
    by_cases h2 : k + 2 ≤ l.length
    · rw [Nat.min_eq_left h2, Nat.add_sub_cancel_left]
      try rfl
    · rw [Nat.min_eq_right (by omega), List.take_of_length_le (by rw [List.length_drop]; omega), List.take_of_length_le (by rw [List.length_drop]; omega)]
      try rfl
  · rw [Nat.min_eq_right (a := k) (by omega), List.drop_length, List.drop_of_length_le (by omega)]
    simp [SX.S]
theorem cutS_last (l : List Nat) : cutS (SX.S l) none (some (-1)) = SX.S l.dropLast := by
  unfold cutS
  rw [HT.sIx_none, SX.S_len, List.drop_zero, Nat.sub_zero]
  have : HT.sIx l.length l.length (some (-1)) = l.length - 1 := by
    show (if (-1 : Int) < 0 then ((-1 : Int) + (l.length : Int)).toNat else min (-1 : Int).toNat l.length) = _
    rw [if_pos (by decide)]
    omega
  rw [this, List.dropLast_eq_take]
  try rfl
def signsL : List Nat := cs "012fgsck()+-*=?: \nb3"
/-- a text that is spoilt -/
def Spoilt (l l' : List Nat) : Prop := ∃ k sg row, k ≤ l.length ∧ sg ∈ signsL ∧ row < (cut 10 l).length ∧
  (l' = l.take k ++ l.drop (k + 1) ∨ l' = l.take k ++ [sg] ++ l.drop k ∨ l' = l.take k ++ [sg] ++ l.drop (k + 1) ∨ l' = TL.joinL [10] ((cut 10 l).take row ++ (cut 10 l).drop (row + 1)) ∨ l' = TL.joinL [10] ((cut 10 l).take (row + 1) ++ (cut 10 l).drop row) ∨
    l' = l.dropLast ∨ l' = l.take k ∨ l' = l ++ [sg] ∨ l' = l.take k ++ ((l.drop k).take 2).reverse ++ l.drop (k + 2))
section
variable {P : Program} {w : World} {K : PySem.W.Frag} {mg : Str → Option Value} {base : Heap}
theorem scSp : FnScope ["script", "at", "text", "seed", "signs", "spot", "sign", "lines", "row", "kinds"] ["script", "at", "text"] (defScope (top 77)) := ⟨rfl, rfl, rfl, by decide +kernel, rfl, by decide +kernel, by decide +kernel⟩
def spSp (K : PySem.W.Frag) : Sp := fun vs H Q _ => ∃ (sv : V) (i : Nat) (l : List Nat), vs = [sv, .int (i : Int), .str (SX.S l)] ∧ ScAt K H sv ∧ i ≤ 1000 ∧ l.length ≤ 2000 ∧ ∀ l' H', Same H H' → Spoilt l l' → Q (.str (SX.S l')) H'
theorem ok_sp (T : Lw P K mg w) : CalX CX0 P w K mg base 2 "_law_spoilt" (spSp K) := by
  refine cal_of T.dSpoilt scSp (fun _ _ _ _ _ _ us hl => match us, hl with | [_, _, _], _ => rfl) (fun vs H Q E ⟨sv, i, l, e, _⟩ => by rw [e]; rfl) ?_
  rintro f cdv A outer s H vs Q E hr ⟨sv, i, l, rfl, ⟨sa, ns, rfl, hsl⟩, hi, hl, k⟩
  have B := T.t.r.f.B
  have nd := scSp.nd
  refine ⟨_, (pss_cons (ps_par (i := 3) (j := 4) rfl nd rfl rfl (by decide) rfl rfl (pa_cons (pe_callTy call_int1 (by rfl) B.int_ (by decide +kernel) (pa_cons (pe_cx (ok_num T) hr pass0 (by rfl) (pa_cons (pv 0) (pa_cons (pv 1) pa_nil))) pa_nil)) (pa_cons pe_str pa_nil)) (by rfl))
    (pss_cons (ps_par (i := 5) (j := 6) rfl nd rfl rfl (by decide) rfl rfl (pa_cons (pe_op op_mod (pe_callTy call_int1 (by rfl) B.int_ (by decide +kernel) (pa_cons (pe_op op_fdiv (pv 3) pe_int) pa_nil)) (pe_op op_add (pe_callB call_len (by rfl) B.len_ PySem.boot_len (pa_cons (pv 2) pa_nil)) pe_int)) (pa_cons (pe_ix ix_str (pv 4) (pe_op op_mod (pe_callTy call_int1 (by rfl) B.int_ (by decide +kernel) (pa_cons (pe_op op_fdiv (pv 3) pe_int) pa_nil)) pe_int) (fun _ _ => rfl)) pa_nil)) (by rfl))
    (pss_cons (ps_set (i := 7) nd rfl (Or.inl rfl) (pe_split (pv 2) pe_str))
    (pss_cons (ps_set (i := 8) nd rfl (Or.inl rfl) (pe_op op_mod (pe_callTy call_int1 (by rfl) B.int_ (by decide +kernel) (pa_cons (pe_op op_fdiv (pv 3) pe_int) pa_nil)) (pe_callB call_len (by rfl) B.len_ PySem.boot_len (pa_cons (pv 7) pa_nil))))
    (pss_cons (ps_set (i := 9) nd rfl (Or.inl rfl) (pe_lst (pa_cons (pe_op op_add_str (pe_slice sl_str (pv 2) po_none (po_some (pv 5))) (pe_slice sl_str (pv 2) (po_some (pe_op op_add (pv 5) pe_int)) po_none)) (pa_cons (pe_op op_add_str (pe_op op_add_str (pe_slice sl_str (pv 2) po_none (po_some (pv 5))) (pv 6)) (pe_slice sl_str (pv 2) (po_some (pv 5)) po_none)) (pa_cons (pe_op op_add_str (pe_op op_add_str (pe_slice sl_str (pv 2) po_none (po_some (pv 5))) (pv 6)) (pe_slice sl_str (pv 2) (po_some (pe_op op_add (pv 5) pe_int)) po_none)) pa_nil)))))
    (pss_cons (ps_expr (pe_bm PySem.F.plainAttrs_list PySem.F.slot_list_append PySem.F.type_list_append mt_append (pv 9) (pa_cons (pe_join pe_str (pe_op op_cat (pe_slice sl_list (pv 7) po_none (po_some (pv 8))) (pe_slice sl_list (pv 7) (po_some (pe_op op_add (pv 8) pe_int)) po_none))) pa_nil)))
    (pss_cons (ps_expr (pe_bm PySem.F.plainAttrs_list PySem.F.slot_list_append PySem.F.type_list_append mt_append (pv 9) (pa_cons (pe_join pe_str (pe_op op_cat (pe_slice sl_list (pv 7) po_none (po_some (pe_op op_add (pv 8) pe_int))) (pe_slice sl_list (pv 7) (po_some (pv 8)) po_none))) pa_nil)))
    (pss_cons (ps_set (i := 9) nd rfl (Or.inl rfl) (pe_op op_cat (pv 9) (pe_lst (pa_cons (pe_slice sl_str (pv 2) po_none (po_some (pe_un un_neg pe_int))) (pa_cons (pe_slice sl_str (pv 2) po_none (po_some (pv 5))) (pa_cons (pe_op op_add_str (pv 2) (pv 6)) (pa_cons (pe_op op_add_str (pe_op op_add_str (pe_slice sl_str (pv 2) po_none (po_some (pv 5))) (pe_revS (pe_slice sl_str (pv 2) (po_some (pv 5)) (po_some (pe_op op_add (pv 5) pe_int))))) (pe_slice sl_str (pv 2) (po_some (pe_op op_add (pv 5) pe_int)) po_none)) pa_nil)))))))
    (pss_one (ps_ret (pe_ix ix_list (pv 9) (pe_op op_mod (pe_callTy call_int1 (by rfl) B.int_ (by decide +kernel) (pa_cons (pv 3) pa_nil)) pe_int) (fun _ _ => rfl)))))))))))), ?_⟩ --END
  have lsz : ∀ {m : Nat}, m ≤ 100000 → m ≤ sizeLine := fun h => by rw [sizeLine_eq]; omega
  have sz : (SX.S l).length ≤ sizeLine := by rw [SX.S_len]; exact lsz (by omega)
  rw [show ("012fgsck()+-*=?: \nb3" : Str) = SX.S signsL from by decide +kernel]
  refine ⟨_, rfl, _, rfl, sa, ns, i, rfl, hsl, by omega, fun n1 H1 s1 hn => .inl ⟨_, rfl, _, _, rfl, ?_⟩⟩
  obtain ⟨k0, hk0, ek0⟩ := mod_at (x := (n1 : Int) / 9) (show 0 < l.length + 1 by omega)
  obtain ⟨g0, hg0, eg0⟩ := mod_at (x := (n1 : Int) / 90000) (show 0 < 20 by decide)
  have hsl20 : signsL.length = 20 := by decide +kernel
  obtain ⟨sg, hsg⟩ : ∃ sg, signsL[g0]? = some sg := ⟨signsL[g0]'(by omega), List.getElem?_eq_getElem _⟩
  refine ⟨_, rfl, _, _, rfl, rfl, ⟨by decide, by decide⟩, .inl ⟨_, rfl, _, rfl, _, l.length, rfl, ⟨sz, by rw [SX.S_len]⟩, _, _, rfl, rfl, _, _, rfl, rfl, (show (0 : Int) < (l.length : Int) + 1 by omega), ?_⟩⟩
  refine ⟨_, rfl, _, rfl, _, _, rfl, rfl, ⟨by decide, by decide⟩, .inl ⟨_, rfl, _, _, rfl, rfl, (show (0 : Int) < _ by decide), _, _, sg, rfl, rfl, by rw [SX.S_len, hsl20]; exact lsz (by decide), (by rw [show (20 : Int) = ((20 : Nat) : Int) from rfl, eg0]; exact atI_nat (by simpa [SX.S] using hsg)), .int (k0 : Int), .str (SX.S [sg]), (by rw [← ek0]; rfl), ?_⟩⟩
  have hsgm : sg ∈ signsL := List.mem_of_getElem? hsg
  -- lines
  refine ⟨_, rfl, ⟨_, rfl⟩, SX.S l, _, rfl, rfl, by decide +kernel, by rw [SX.S_len]; exact lsz (by omega), fun p hp => ?_⟩
  rw [nlS, split_cut _ _ (by decide), ← wV_str]
  have z1 := same_upd (o := .lst (wV (cut 10 l))) hp
  have hpv := upd_same (H := H1) (a := p) (o := .lst (wV (cut 10 l)))
  have s2 := s1.trans z1
  generalize upd H1 p (.lst (wV (cut 10 l))) = H2 at hpv s2 ⊢
  clear z1 hp
  have hc0 : 0 < (cut 10 l).length := List.length_pos_iff.mpr (cut_ne 10 l)
  have hcc := cut_count (c := 10) l
  have hcl : ∀ x ∈ cut 10 l, x.length ≤ 2000 := fun x hx => Nat.le_trans (cut_len hx) hl
  have hwl : (wV (cut 10 l)).length = (cut 10 l).length := by rw [wV, List.length_map]
  obtain ⟨r0, hr0, er0⟩ := mod_at (x := (n1 : Int) / 700) hc0
  refine ⟨_, rfl, _, _, rfl, rfl, ⟨by decide, by decide⟩, .inl ⟨_, rfl, _, rfl, .ref p, _, rfl, .inl ⟨_, SqL.of hpv, rfl⟩, _, _, rfl, rfl, (by rw [hwl]; show (0 : Int) < ((cut 10 l).length : Int); omega), ?_⟩⟩
  show gName 8 (V.int ((n1 : Int) / 700 % ((wV (cut 10 l)).length : Int))) _ _ _
  rw [hwl, er0]
  have sp : ∀ {l' : List Nat}, (l' = l.take k0 ++ l.drop (k0 + 1) ∨ l' = l.take k0 ++ [sg] ++ l.drop k0 ∨ l' = l.take k0 ++ [sg] ++ l.drop (k0 + 1) ∨ l' = TL.joinL [10] ((cut 10 l).take r0 ++ (cut 10 l).drop (r0 + 1)) ∨ l' = TL.joinL [10] ((cut 10 l).take (r0 + 1) ++ (cut 10 l).drop r0) ∨
    l' = l.dropLast ∨ l' = l.take k0 ∨ l' = l ++ [sg] ∨ l' = l.take k0 ++ ((l.drop k0).take 2).reverse ++ l.drop (k0 + 2)) → Spoilt l l' := fun h => ⟨k0, sg, r0, by omega, hsgm, hr0, h⟩
  -- kinds
  have tk : (l.take k0).length ≤ 2000 := by rw [List.length_take]; omega
  have dk : ∀ m, (l.drop m).length ≤ 2000 := fun m => by rw [List.length_drop]; omega
  refine ⟨_, rfl, _, rfl, _, rfl, _, rfl, sz, ?_⟩
  rw [cutS_take l k0 rfl]
  refine ⟨_, rfl, _, rfl, _, _, rfl, rfl, _, rfl, _, rfl, sz, ?_⟩
  rw [cutS_drop l (k0 + 1) (by omega)]
  refine ⟨_, _, rfl, rfl, (by rw [SX.S_len, SX.S_len]; exact lsz (by have := dk (k0 + 1); omega)), ?_⟩
  rw [SX.S_cat]
  refine ⟨_, rfl, _, rfl, _, rfl, _, rfl, sz, ?_⟩
  rw [cutS_take l k0 rfl]
  refine ⟨_, rfl, _, _, rfl, rfl, (by rw [SX.S_len, SX.S_len]; exact lsz (by show _ + 1 ≤ _; omega)), ?_⟩
  rw [SX.S_cat]
  refine ⟨_, rfl, _, rfl, _, rfl, _, rfl, sz, ?_⟩
  rw [cutS_drop l k0 rfl]
  refine ⟨_, _, rfl, rfl, (by rw [SX.S_len, SX.S_len, List.length_append]; exact lsz (by have := dk k0; show _ + 1 + _ ≤ _; omega)), ?_⟩
  rw [SX.S_cat]
  refine ⟨_, rfl, _, rfl, _, rfl, _, rfl, sz, ?_⟩
  rw [cutS_take l k0 rfl]
  refine ⟨_, rfl, _, _, rfl, rfl, (by rw [SX.S_len, SX.S_len]; exact lsz (by show _ + 1 ≤ _; omega)), ?_⟩
  rw [SX.S_cat]
  refine ⟨_, rfl, _, rfl, _, _, rfl, rfl, _, rfl, _, rfl, sz, ?_⟩
  rw [cutS_drop l (k0 + 1) (by omega)]
  refine ⟨_, _, rfl, rfl, (by rw [SX.S_len, SX.S_len, List.length_append]; exact lsz (by have := dk (k0 + 1); show _ + 1 + _ ≤ _; omega)), ?_⟩
  rw [SX.S_cat]
  refine ⟨(by show 3 ≤ sizeLine; decide), fun kl hkl => ?_⟩
  obtain ⟨kt, hkt⟩ : ∃ kt : List (List Nat), kt = [l.take k0 ++ l.drop (k0 + 1), l.take k0 ++ [sg] ++ l.drop k0, l.take k0 ++ [sg] ++ l.drop (k0 + 1)] := ⟨_, rfl⟩
  have hsp3 : ∀ x ∈ kt, Spoilt l x := by
    intro x hx
    rw [hkt] at hx
    simp only [List.mem_cons, List.not_mem_nil, or_false] at hx
    rcases hx with h | h | h
    · exact sp (.inl h)
    · exact sp (.inr (.inl h))
    · exact sp (.inr (.inr (.inl h)))
  have hkt3 : kt.length = 3 := by rw [hkt]; rfl
  have hklH : H kl = none := Same.free s2 hkl
  have hpk : p ≠ kl := ne_of_none hpv hkl
  generalize hHH : upd H2 kl _ = H3
  have hklv : H3 kl = some (.lst (wV kt)) := by
    rw [← hHH, upd_same, hkt]
    rfl
  have z1 : Same H2 H3 := by
    rw [← hHH]
    exact same_upd hkl
  clear hHH hkl
  have hpv := z1 _ _ hpv
  have s3 := s2.trans z1
  clear z1
  have eTo : ∀ m : Nat, cutV (wV (cut 10 l)) none (some (m : Int)) = wV ((cut 10 l).take m) := fun m => by rw [cutVL_to, wV_take]
  have eFr : ∀ m : Nat, cutV (wV (cut 10 l)) (some (m : Int)) none = wV ((cut 10 l).drop m) := fun m => by rw [cutVL_from, wV_drop]
  have hwV : ∀ zs : List (List Nat), (wV zs).length = zs.length := fun zs => by rw [wV, List.length_map]
  have wapp : ∀ a b : List (List Nat), wV a ++ wV b = wV (a ++ b) := fun a b => by unfold wV; rw [List.map_append]
  have sum2 : ∀ zs : List (List Nat), (∀ x ∈ zs, x.length ≤ 2000) → zs.length ≤ 2100 → ((zs.map SX.S).map (·.length)).sum + (zs.map SX.S).length * (SX.S [10]).length ≤ 16777216 := by
    have hs : ∀ zs : List (List Nat), (∀ x ∈ zs, x.length ≤ 2000) → ((zs.map SX.S).map (·.length)).sum ≤ zs.length * 2000 := by
      intro zs
      induction zs with
      | nil => intro _; exact Nat.zero_le _
      | cons z zs ih =>
        intro h
        have h1 := h z (List.mem_cons_self ..)
        have h2 := ih fun x hx => h x (List.mem_cons_of_mem _ hx)
        simp only [List.map_cons, List.sum_cons, List.length_cons, SX.S_len]
        omega
    intro zs h1 h2
    have := hs zs h1
    rw [List.length_map, SX.S_len]
    show _ + _ * 1 ≤ _
    omega
  have memc : ∀ {a b : Nat} {x : List Nat}, x ∈ (cut 10 l).take a ++ (cut 10 l).drop b → x.length ≤ 2000 := fun hx => by
    rcases List.mem_append.mp hx with hx | hx
    · exact hcl _ (List.mem_of_mem_take hx)
    · exact hcl _ (List.mem_of_mem_drop hx)
  have lenc : ∀ a b : Nat, a ≤ b + 1 → ((cut 10 l).take a ++ (cut 10 l).drop b).length ≤ 2100 := fun a b h => by
    rw [List.length_append, List.length_take, List.length_drop]
    omega
  -- first append
  refine ⟨_, rfl, .inl ⟨rfl, _, SqL.of hklv⟩, ⟨_, rfl⟩, _, rfl, _, rfl, _, rfl, p, _, rfl, SqL.of hpv, fun q1 hq1 => ?_⟩
  rw [eTo]
  have z1 := same_upd (o := .lst (wV ((cut 10 l).take r0))) hq1
  have hq1v := upd_same (H := H3) (a := q1) (o := .lst (wV ((cut 10 l).take r0)))
  generalize upd H3 q1 (.lst (wV ((cut 10 l).take r0))) = H4 at z1 hq1v ⊢
  have hpv := z1 _ _ hpv
  refine ⟨_, rfl, _, rfl, _, _, rfl, rfl, _, rfl, p, _, rfl, SqL.of hpv, fun q2 hq2 => ?_⟩
  rw [show cutV (wV (cut 10 l)) (some ((r0 : Int) + 1)) none = wV ((cut 10 l).drop (r0 + 1)) from eFr (r0 + 1)]
  have z2 := same_upd (o := .lst (wV ((cut 10 l).drop (r0 + 1)))) hq2
  have hq2v := upd_same (H := H4) (a := q2) (o := .lst (wV ((cut 10 l).drop (r0 + 1))))
  generalize upd H4 q2 (.lst (wV ((cut 10 l).drop (r0 + 1)))) = H5 at z2 hq2v ⊢
  refine ⟨q1, q2, _, _, rfl, rfl, z2 _ _ hq1v, hq2v, (by rw [hwV, hwV]; exact lsz (by have := lenc r0 (r0 + 1) (by omega); rw [List.length_append] at this; omega)), fun q3 hq3 => ?_⟩
  rw [wapp]
  have z3 := same_upd (o := .lst (wV ((cut 10 l).take r0 ++ (cut 10 l).drop (r0 + 1)))) hq3
  have hq3v := upd_same (H := H5) (a := q3) (o := .lst (wV ((cut 10 l).take r0 ++ (cut 10 l).drop (r0 + 1))))
  generalize upd H5 q3 (.lst (wV ((cut 10 l).take r0 ++ (cut 10 l).drop (r0 + 1)))) = H6 at z3 hq3v ⊢
  have z4 := z1.trans (z2.trans z3)
  rw [wV_str] at hq3v
  refine ⟨_, q3, _, rfl, rfl, .inl (SqL.of hq3v), sum2 _ (fun x hx => memc hx) (lenc _ _ (by omega)), ?_⟩
  rw [SX.join_S]
  have hkl6 := z4 _ _ hklv
  have hpv := z4 _ _ (show H3 p = some (.lst (wV (cut 10 l))) by assumption)
  refine ⟨kl, _, _, rfl, rfl, hkl6, (by rw [hwV, hkt3]; show 3 < sizeLine; decide), ?_⟩
  rw [show wV kt ++ [V.str (SX.S (TL.joinL [10] ((cut 10 l).take r0 ++ (cut 10 l).drop (r0 + 1))))] = wV (kt ++ [TL.joinL [10] ((cut 10 l).take r0 ++ (cut 10 l).drop (r0 + 1))]) from wapp kt [_]]
  have s4 : Same H (upd H6 kl (.lst (wV (kt ++ [TL.joinL [10] ((cut 10 l).take r0 ++ (cut 10 l).drop (r0 + 1))])))) := same_new (s3.trans z4) hklH
  have hklv := upd_same (H := H6) (a := kl) (o := .lst (wV (kt ++ [TL.joinL [10] ((cut 10 l).take r0 ++ (cut 10 l).drop (r0 + 1))])))
  have hpv : upd H6 kl (.lst (wV (kt ++ [TL.joinL [10] ((cut 10 l).take r0 ++ (cut 10 l).drop (r0 + 1))]))) p = some (.lst (wV (cut 10 l))) := by rw [upd_ne hpk]; exact hpv
  have hsp4 : ∀ x ∈ kt ++ [TL.joinL [10] ((cut 10 l).take r0 ++ (cut 10 l).drop (r0 + 1))], Spoilt l x := fun x hx => by
    rcases List.mem_append.mp hx with hx | hx
    · exact hsp3 x hx
    · rw [List.mem_singleton.mp hx]
      exact sp (.inr (.inr (.inr (.inl rfl))))
  have hkt4 : (kt ++ [TL.joinL [10] ((cut 10 l).take r0 ++ (cut 10 l).drop (r0 + 1))]).length = 4 := by rw [List.length_append, hkt3]; rfl
  clear hkl6 z4 hq1v hq2v hq3v z1 z2 z3 hkt hsp3 hq1 hq2 hq3
  generalize kt ++ [TL.joinL [10] ((cut 10 l).take r0 ++ (cut 10 l).drop (r0 + 1))] = k4 at s4 hklv hpv hsp4 hkt4 ⊢
  generalize upd H6 kl (.lst (wV k4)) = H7 at s4 hklv hpv ⊢
  -- second append
  refine ⟨_, rfl, .inl ⟨rfl, _, SqL.of hklv⟩, ⟨_, rfl⟩, _, rfl, _, rfl, _, _, rfl, rfl, _, rfl, p, _, rfl, SqL.of hpv, fun q1 hq1 => ?_⟩
  rw [show cutV (wV (cut 10 l)) none (some ((r0 : Int) + 1)) = wV ((cut 10 l).take (r0 + 1)) from eTo (r0 + 1)]
  have z1 := same_upd (o := .lst (wV ((cut 10 l).take (r0 + 1)))) hq1
  have hq1v := upd_same (H := H7) (a := q1) (o := .lst (wV ((cut 10 l).take (r0 + 1))))
  generalize upd H7 q1 (.lst (wV ((cut 10 l).take (r0 + 1)))) = H8 at z1 hq1v ⊢
  have hpv := z1 _ _ hpv
  refine ⟨_, rfl, _, rfl, _, rfl, p, _, rfl, SqL.of hpv, fun q2 hq2 => ?_⟩
  rw [eFr r0]
  have z2 := same_upd (o := .lst (wV ((cut 10 l).drop r0))) hq2
  have hq2v := upd_same (H := H8) (a := q2) (o := .lst (wV ((cut 10 l).drop r0)))
  generalize upd H8 q2 (.lst (wV ((cut 10 l).drop r0))) = H9 at z2 hq2v ⊢
  refine ⟨q1, q2, _, _, rfl, rfl, z2 _ _ hq1v, hq2v, (by rw [hwV, hwV]; exact lsz (by have := lenc (r0 + 1) r0 (by omega); rw [List.length_append] at this; omega)), fun q3 hq3 => ?_⟩
  rw [wapp]
  have z3 := same_upd (o := .lst (wV ((cut 10 l).take (r0 + 1) ++ (cut 10 l).drop r0))) hq3
  have hq3v := upd_same (H := H9) (a := q3) (o := .lst (wV ((cut 10 l).take (r0 + 1) ++ (cut 10 l).drop r0)))
  generalize upd H9 q3 (.lst (wV ((cut 10 l).take (r0 + 1) ++ (cut 10 l).drop r0))) = H10 at z3 hq3v ⊢
  have z4 := z1.trans (z2.trans z3)
  rw [wV_str] at hq3v
  refine ⟨_, q3, _, rfl, rfl, .inl (SqL.of hq3v), sum2 _ (fun x hx => memc hx) (lenc _ _ (by omega)), ?_⟩
  rw [SX.join_S]
  have hkl10 := z4 _ _ hklv
  refine ⟨kl, _, _, rfl, rfl, hkl10, (by rw [hwV, hkt4]; show 4 < sizeLine; decide), ?_⟩
  rw [show wV k4 ++ [V.str (SX.S (TL.joinL [10] ((cut 10 l).take (r0 + 1) ++ (cut 10 l).drop r0)))] = wV (k4 ++ [TL.joinL [10] ((cut 10 l).take (r0 + 1) ++ (cut 10 l).drop r0)]) from wapp k4 [_]]
  have s5 : Same H (upd H10 kl (.lst (wV (k4 ++ [TL.joinL [10] ((cut 10 l).take (r0 + 1) ++ (cut 10 l).drop r0)])))) := same_new (s4.trans z4) hklH
  have hklv := upd_same (H := H10) (a := kl) (o := .lst (wV (k4 ++ [TL.joinL [10] ((cut 10 l).take (r0 + 1) ++ (cut 10 l).drop r0)])))
  have hsp5 : ∀ x ∈ k4 ++ [TL.joinL [10] ((cut 10 l).take (r0 + 1) ++ (cut 10 l).drop r0)], Spoilt l x := fun x hx => by
    rcases List.mem_append.mp hx with hx | hx
    · exact hsp4 x hx
    · rw [List.mem_singleton.mp hx]
      exact sp (.inr (.inr (.inr (.inr (.inl rfl)))))
  have hkt5 : (k4 ++ [TL.joinL [10] ((cut 10 l).take (r0 + 1) ++ (cut 10 l).drop r0)]).length = 5 := by rw [List.length_append, hkt4]; rfl
  clear hkl10 z4 hq1v hq2v hq3v z1 z2 z3 hsp4 hq1 hq2 hq3 hpv
  generalize k4 ++ [TL.joinL [10] ((cut 10 l).take (r0 + 1) ++ (cut 10 l).drop r0)] = k5 at s5 hklv hsp5 hkt5 ⊢
  generalize upd H10 kl (.lst (wV k5)) = H11 at s5 hklv ⊢
  -- the other four
  refine ⟨_, rfl, _, rfl, _, rfl, _, rfl, _, rfl, sz, ?_⟩
  rw [cutS_last l]
  refine ⟨_, rfl, _, rfl, _, rfl, _, rfl, sz, ?_⟩
  rw [cutS_take l k0 rfl]
  refine ⟨_, rfl, _, rfl, _, _, rfl, rfl, (by rw [SX.S_len, SX.S_len]; exact lsz (by show _ + 1 ≤ _; omega)), ?_⟩
  rw [SX.S_cat]
  refine ⟨_, rfl, _, rfl, _, rfl, _, rfl, sz, ?_⟩
  rw [cutS_take l k0 rfl]
  refine ⟨_, rfl, _, rfl, _, rfl, _, rfl, _, _, rfl, rfl, _, rfl, _, rfl, sz, ?_⟩
  rw [cutS_two l k0]
  refine ⟨(l.drop k0).take 2, rfl, (by rw [List.length_take]; omega), ?_⟩
  rw [show (⟨((l.drop k0).take 2).reverse.toArray⟩ : Str) = SX.S ((l.drop k0).take 2).reverse from rfl]
  have t2 : ((l.drop k0).take 2).reverse.length ≤ 2 := by rw [List.length_reverse, List.length_take]; omega
  refine ⟨_, _, rfl, rfl, (by rw [SX.S_len, SX.S_len]; exact lsz (by omega)), ?_⟩
  rw [SX.S_cat]
  refine ⟨_, rfl, _, rfl, _, _, rfl, rfl, _, rfl, _, rfl, sz, ?_⟩
  rw [cutS_drop l (k0 + 2) (by omega)]
  refine ⟨_, _, rfl, rfl, (by rw [SX.S_len, SX.S_len, List.length_append]; exact lsz (by have := dk (k0 + 2); omega)), ?_⟩
  rw [SX.S_cat]
  refine ⟨(by show 4 ≤ sizeLine; decide), fun fl hfl => ?_⟩
  obtain ⟨f4, hf4⟩ : ∃ f4 : List (List Nat), f4 = [l.dropLast, l.take k0, l ++ [sg], l.take k0 ++ ((l.drop k0).take 2).reverse ++ l.drop (k0 + 2)] := ⟨_, rfl⟩
  have hspf : ∀ x ∈ f4, Spoilt l x := by
    intro x hx
    rw [hf4] at hx
    simp only [List.mem_cons, List.not_mem_nil, or_false] at hx
    rcases hx with h | h | h | h
    · exact sp (.inr (.inr (.inr (.inr (.inr (.inl h))))))
    · exact sp (.inr (.inr (.inr (.inr (.inr (.inr (.inl h)))))))
    · exact sp (.inr (.inr (.inr (.inr (.inr (.inr (.inr (.inl h))))))))
    · exact sp (.inr (.inr (.inr (.inr (.inr (.inr (.inr (.inr h))))))))
  have hfl4 : f4.length = 4 := by rw [hf4]; rfl
  generalize hHH : upd H11 fl _ = H12
  have hflv : H12 fl = some (.lst (wV f4)) := by
    rw [← hHH, upd_same, hf4]
    rfl
  have z1 : Same H11 H12 := by
    rw [← hHH]
    exact same_upd hfl
  clear hHH hfl hf4
  refine ⟨kl, fl, _, _, rfl, rfl, z1 _ _ hklv, hflv, (by rw [hwV, hwV, hkt5, hfl4]; show 9 ≤ sizeLine; decide), fun fin hfin => ?_⟩
  rw [wapp]
  have z2 := same_upd (o := .lst (wV (k5 ++ f4))) hfin
  have hfv := upd_same (H := H12) (a := fin) (o := .lst (wV (k5 ++ f4)))
  have hl9 : (k5 ++ f4).length = 9 := by rw [List.length_append, hkt5, hfl4]
  have hspA : ∀ x ∈ k5 ++ f4, Spoilt l x := fun x hx => by
    rcases List.mem_append.mp hx with hx | hx
    · exact hsp5 x hx
    · exact hspf x hx
  generalize k5 ++ f4 = k9 at z2 hfv hl9 hspA ⊢
  generalize upd H12 fin (.lst (wV k9)) = H13 at z2 hfv ⊢
  obtain ⟨j0, hj0, ej0⟩ := mod_at (x := (n1 : Int)) (show 0 < 9 by decide)
  obtain ⟨lz, hlz⟩ : ∃ lz, k9[j0]? = some lz := ⟨k9[j0]'(by omega), List.getElem?_eq_getElem _⟩
  refine ⟨_, rfl, _, rfl, .inl ⟨_, rfl, _, _, rfl, rfl, (show (0 : Int) < _ by decide), fin, _, _, .str (SX.S lz), rfl, rfl, SqL.of hfv, ?_, ?_⟩⟩
  · rw [show (9 : Int) = ((9 : Nat) : Int) from rfl, ej0]
    exact atI_nat (by rw [wV, List.getElem?_map, hlz]; rfl)
  exact k lz H13 (s5.trans (z1.trans z2)) (hspA lz (List.mem_of_getElem? hlz))
end
end Km
set_option Elab.async false
set_option linter.all false
set_option maxRecDepth 100000
set_option maxHeartbeats 4000000
/-! spoilt texts are fit to be read -/
namespace Km
open PySem PySem.Spec PyProof.Rows L2
/-- the pieces are short -/
def Pc (f : Nat → Bool) (m : Nat) (l : List Nat) : Prop := ∀ x ∈ cutP f l, x.length ≤ m
theorem Pc.split {f : Nat → Bool} {m : Nat} {p q : List Nat} (h : Pc f m (p ++ q)) : Pc f m p ∧ Pc f m q := by
  obtain ⟨P, u, v, Q, h1, h2, h3⟩ := cutP_app f q p
  unfold Pc at h
  rw [h3] at h
  have huv := h (u ++ v) (by simp)
  rw [List.length_append] at huv
  constructor
  · intro x hx
    rw [h1] at hx
    rcases List.mem_append.mp hx with hx | hx
    · exact h x (List.mem_append_left _ hx)
    · rw [List.mem_singleton.mp hx]; omega
  · intro x hx
    rw [h2] at hx
    rcases List.mem_cons.mp hx with rfl | hx
    · omega
    · exact h x (by simp [hx])
theorem Pc.app {f : Nat → Bool} {m n : Nat} {p q : List Nat} (h : Pc f m p) (g : Pc f n q) : Pc f (m + n) (p ++ q) := by
  obtain ⟨P, u, v, Q, h1, h2, h3⟩ := cutP_app f q p
  intro x hx
  rw [h3] at hx
  have hu := h u (by rw [h1]; simp)
  have hv := g v (by rw [h2]; simp)
  rcases List.mem_append.mp hx with hx | hx
  · have := h x (by rw [h1]; exact List.mem_append_left _ hx)
    omega
  · rcases List.mem_cons.mp hx with rfl | hx
    · rw [List.length_append]; omega
    · have := g x (by rw [h2]; exact List.mem_cons_of_mem _ hx)
      omega
theorem Pc.mono {f : Nat → Bool} {m n : Nat} {l : List Nat} (h : Pc f m l) (e : m ≤ n) : Pc f n l := fun x hx => Nat.le_trans (h x hx) e
theorem cutP_len (f : Nat → Bool) : ∀ (l : List Nat), Pc f l.length l
  | [] => by
    intro x hx
    rw [List.mem_singleton.mp (show x ∈ [[]] from hx)]
    exact Nat.le_refl _
  | a :: r => by
    have ih := cutP_len f r
    have h1 : Pc f 1 [a] := by
      intro x hx
      unfold cutP at hx
      split at hx
      · simp [cutP] at hx
        rcases hx with rfl | rfl <;> simp
      · simp [cutP] at hx
        rw [hx]
        simp
    have := Pc.app h1 ih
    rw [show [a] ++ r = a :: r from rfl] at this
    exact this.mono (by rw [List.length_cons]; omega)
/-- a text, spoilt within -/
theorem Pc.spoil {f : Nat → Bool} {m n : Nat} {p X Y q : List Nat} (h : Pc f m (p ++ X ++ q)) (hY : Y.length ≤ n) : Pc f (m + n + m) (p ++ Y ++ q) :=
  ((h.split.1.split.1.app ((cutP_len f Y).mono hY))).app h.split.2
theorem cut_flat : ∀ l : List Nat, cutP sepB l = (cut 10 l).flatMap (cut 32)
  | [] => rfl
  | x :: r => by
    have ih := cut_flat r
    cases e : cut 10 r with
    | nil => exact absurd e (cut_ne 10 r)
    | cons p ps =>
      rw [e, List.flatMap_cons] at ih
      unfold cutP
      by_cases h1 : x = 10
      · subst h1
        rw [show cut 10 (10 :: r) = [] :: cut 10 r from by rw [cut, if_pos rfl]]
        rw [if_pos (show sepB 10 = true from rfl), List.flatMap_cons, e, List.flatMap_cons, ih]
        rfl
      · by_cases h2 : x = 32
        · subst h2
          rw [if_pos (show sepB 32 = true from rfl), show cut 10 (32 :: r) = (32 :: p) :: ps from by rw [cut, if_neg h1, e], List.flatMap_cons, ih]
          rfl
        · have hs : sepB x = false := by unfold sepB; rw [decide_eq_false h1, decide_eq_false h2]; rfl
          rw [if_neg (by rw [hs]; decide), show cut 10 (x :: r) = (x :: p) :: ps from by rw [cut, if_neg h1, e], ih, List.flatMap_cons]
          cases e2 : cut 32 p with
          | nil => exact absurd e2 (cut_ne 32 p)
          | cons q qs =>
            have : cut 32 (x :: p) = (x :: q) :: qs := by
              rw [cut, if_neg h2, e2]
            rw [this]
            rfl
theorem word_in {l y x : List Nat} (hy : y ∈ cut 10 l) (hx : x ∈ cut 32 y) : x ∈ cutP sepB l := by
  rw [cut_flat]
  exact List.mem_flatMap.mpr ⟨y, hy, hx⟩
theorem line_Pc {l : List Nat} {m : Nat} : Pc (fun x => decide (x = 10)) m l ↔ ∀ y ∈ cut 10 l, y.length ≤ m := by
  unfold Pc
  rw [← cut_cutP]
theorem cut_joinL : ∀ {L : List (List Nat)}, L ≠ [] → (∀ y ∈ L, ∀ c ∈ y, c ≠ 10) → cut 10 (TL.joinL [10] L) = L
  | [], h, _ => absurd rfl h
  | [y], hne, h => by
    clear hne
    show cut 10 y = [y]
    have h' := h y (List.mem_cons_self ..)
    clear cut_joinL h
    induction y with
    | nil => rfl
    | cons a y ih =>
      rw [cut, if_neg (h' a (List.mem_cons_self ..)), ih fun c hc => h' c (List.mem_cons_of_mem _ hc)]
  | y :: z :: r, hne, h => by
    clear hne
    have ih := cut_joinL (L := z :: r) (by simp) fun x hx => h x (List.mem_cons_of_mem _ hx)
    show cut 10 (y ++ ([10] ++ TL.joinL [10] (z :: r))) = _
    have h' := h y (List.mem_cons_self ..)
    clear cut_joinL h
    induction y with
    | nil => rw [List.nil_append, List.singleton_append, cut, if_pos rfl, ih]
    | cons a y ihy =>
      rw [List.cons_append, cut, if_neg (h' a (List.mem_cons_self ..)), ihy fun c hc => h' c (List.mem_cons_of_mem _ hc)]
/-! ### written texts -/
def sgB (c : Nat) : Bool := decide (33 ≤ c ∧ c < 128)
theorem txt_sg : ∀ {t : Tr}, t.wf = true → ∀ c ∈ txt t, sgB c = true
  | .num n, h, c, hc => by
    simp only [Tr.wf, decide_eq_true_eq] at h
    simp only [txt, List.mem_singleton] at hc
    subst hc
    exact decide_eq_true (by omega)
  | .given, _, c, hc => by
    simp only [txt, List.mem_singleton] at hc
    subst hc
    rfl
  | .setting, _, c, hc => by
    simp only [txt, List.mem_singleton] at hc
    subst hc
    rfl
  | .col n, h, c, hc => by
    simp only [Tr.wf, decide_eq_true_eq] at h
    simp only [txt, List.mem_cons, List.not_mem_nil, or_false] at hc
    rcases hc with rfl | rfl
    · rfl
    · exact decide_eq_true (by omega)
  | .kept n, h, c, hc => by
    simp only [Tr.wf, decide_eq_true_eq] at h
    simp only [txt, List.mem_cons, List.not_mem_nil, or_false] at hc
    rcases hc with rfl | rfl
    · rfl
    · exact decide_eq_true (by omega)
  | .call n a, h, c, hc => by
    simp only [Tr.wf, Bool.and_eq_true, decide_eq_true_eq] at h
    have ih := txt_sg h.2
    simp only [txt, List.mem_cons, List.mem_append, List.not_mem_nil, or_false] at hc
    rcases hc with rfl | rfl | rfl | hc | rfl
    · rfl
    · exact decide_eq_true (by omega)
    · rfl
    · exact ih c hc
    · rfl
  | .bin o a b, h, c, hc => by
    simp only [Tr.wf, Bool.and_eq_true] at h
    have i1 := txt_sg h.1
    have i2 := txt_sg h.2
    simp only [txt, List.mem_cons, List.mem_append, List.not_mem_nil, or_false] at hc
    rcases hc with rfl | hc | rfl | hc | rfl
    · rfl
    · exact i1 c hc
    · cases o <;> rfl
    · exact i2 c hc
    · rfl
  | .whn t a b, h, c, hc => by
    simp only [Tr.wf, Bool.and_eq_true] at h
    have i0 := txt_sg h.1
    have i1 := txt_sg h.2.1
    have i2 := txt_sg h.2.2
    simp only [txt, List.mem_cons, List.mem_append, List.not_mem_nil, or_false] at hc
    rcases hc with rfl | hc | rfl | hc | rfl | hc | rfl
    · rfl
    · exact i0 c hc
    · rfl
    · exact i1 c hc
    · rfl
    · exact i2 c hc
    · rfl
theorem OrigW.sg {x : List Nat} (h : OrigW x) : ∀ c ∈ x, sgB c = true := by
  rcases h with ⟨t, h1, _, rfl⟩ | ⟨n, hn, rfl⟩ | h
  · exact txt_sg h1
  · intro c hc
    rw [List.mem_singleton.mp hc]
    exact decide_eq_true (by omega)
  · have : ∀ y ∈ keyW, ∀ c ∈ y, sgB c = true := by decide +kernel
    exact this x h
theorem sg_sep {c : Nat} (h : sgB c = true) : sepB c = false := by
  have : 33 ≤ c ∧ c < 128 := of_decide_eq_true h
  unfold sepB
  rw [decide_eq_false (by omega), decide_eq_false (by omega)]
  rfl
theorem prD_none (c : Nat) (h : ¬ (48 ≤ c ∧ c ≤ 50) ∧ c ≠ 103 ∧ c ≠ 115 ∧ c ≠ 99 ∧ c ≠ 107 ∧ c ≠ 102 ∧ c ≠ 40) (r : List Nat) : prD 12 (c :: r) = none := by
  obtain ⟨h1, h2, h3, h4, h5, h6, h7⟩ := h
  simp only [prD, if_neg h1, if_neg h2, if_neg h3, if_neg h4, if_neg h5, if_neg h6, if_neg h7]
theorem prD_ck (c d : Nat) (hc : c = 99 ∨ c = 107 ∨ c = 102) (h : ¬ (48 ≤ d ∧ d ≤ 50)) (r : List Nat) : prD 12 (c :: d :: r) = none := by
  have h1 : ¬ (48 ≤ d ∧ d ≤ 48 + 1) := by omega
  have h2 : ¬ (48 ≤ d ∧ d ≤ 48 + 2) := by omega
  rcases hc with rfl | rfl | rfl
  · simp [prD, digO, h1]
  · simp [prD, digO, h1]
  · simp [prD, digO, h2]
theorem Pre.s {x : List Nat} {d : Nat} : Pre (115 :: d :: x) := fun z _ t e => by
  simp [prD] at e
theorem OrigW.ow {x : List Nat} (h : OrigW x) : Ow x := by
  refine ⟨h.len, fun _ => ?_⟩
  rcases h with ⟨t, h1, h2, rfl⟩ | ⟨n, hn, rfl⟩ | h
  · exact Pre.tree h1 (by omega)
  · by_cases hn2 : n ≤ 2
    · exact Pre.tree (t := .num n) (decide_eq_true hn2) (show 1 ≤ 12 by decide)
    · exact Pre.one fun r => prD_none _ (by omega) r
  · simp only [keyW, List.mem_cons, List.not_mem_nil, or_false] at h
    rcases h with rfl | rfl | rfl | rfl | rfl | rfl | rfl | rfl | rfl | rfl | rfl
    · exact Pre.one (x := [97, 115, 101]) fun r => prD_none 98 (by decide) r
    · exact Pre.s (x := [116, 116, 105, 110, 103, 115]) (d := 101)
    · exact Pre.two (x := [110, 99, 116, 105, 111, 110]) fun r => prD_ck 102 117 (by decide) (by decide) r
    · exact Pre.two (x := [108, 117, 109, 110, 115]) fun r => prD_ck 99 111 (by decide) (by decide) r
    · exact Pre.one (x := [104, 105, 110, 103]) fun r => prD_none 116 (by decide) r
    · exact Pre.two (x := [112, 116]) fun r => prD_ck 107 101 (by decide) (by decide) r
    · exact Pre.one (x := [103, 97, 105, 110]) fun r => prD_none 97 (by decide) r
    · exact Pre.two (x := [101, 99, 107]) fun r => prD_ck 99 104 (by decide) (by decide) r
    · exact Pre.two (x := [101, 101]) fun r => prD_ck 102 114 (by decide) (by decide) r
    · exact Pre.one (x := [114, 105, 116, 101, 114, 115]) fun r => prD_none 119 (by decide) r
    · exact Pre.one (x := [115, 107, 101, 114, 115]) fun r => prD_none 97 (by decide) r
theorem joinL_memC {c : Nat} : ∀ {L : List (List Nat)} {x : Nat}, x ∈ TL.joinL [c] L → x = c ∨ ∃ y ∈ L, x ∈ y
  | [], x, h => by cases h
  | [y], x, h => .inr ⟨y, List.mem_cons_self .., h⟩
  | y :: z :: r, x, h => by
    have h : x ∈ y ++ ([c] ++ TL.joinL [c] (z :: r)) := h
    rcases List.mem_append.mp h with h | h
    · exact .inr ⟨y, List.mem_cons_self .., h⟩
    · rcases List.mem_append.mp h with h | h
      · exact .inl (List.mem_singleton.mp h)
      · rcases joinL_memC h with h | ⟨w, h1, h2⟩
        · exact .inl h
        · exact .inr ⟨w, List.mem_cons_of_mem _ h1, h2⟩
theorem joinL_lenC {c m : Nat} : ∀ {ws : List (List Nat)}, (∀ x ∈ ws, x.length ≤ m) → (TL.joinL [c] ws).length ≤ ws.length * (m + 1)
  | [], _ => Nat.zero_le _
  | [p], h => by
    have := h p (List.mem_cons_self ..)
    show p.length ≤ 1 * (m + 1)
    omega
  | p :: q :: r, h => by
    have h1 := h p (List.mem_cons_self ..)
    have h2 := joinL_lenC (c := c) (m := m) (ws := q :: r) fun x hx => h x (List.mem_cons_of_mem _ hx)
    show (p ++ ([c] ++ TL.joinL [c] (q :: r))).length ≤ _
    simp only [List.length_append, List.length_cons, List.length_nil] at h2 ⊢
    rw [Nat.add_mul]
    omega
theorem textOf_cons (ws : List (List Nat)) (r : List (List (List Nat))) : textOf (ws :: r) = TL.joinL [32] ws ++ 10 :: textOf r := by
  simp [textOf, lineT]
theorem text_words : ∀ {wss : List (List (List Nat))}, (∀ ws ∈ wss, OrigL ws) → cutP sepB (textOf wss) = wss.flatten ++ [[]]
  | [], _ => rfl
  | ws :: r, h => by
    have hw := h ws (List.mem_cons_self ..)
    rw [textOf_cons, cutS_join _ hw.1 fun w hx c hc => sg_sep ((hw.2.2 w hx).sg c hc), text_words fun x hx => h x (List.mem_cons_of_mem _ hx)]
    simp
theorem Ow.nil : Ow [] := ⟨by decide, fun h => absurd rfl h⟩
theorem text_ow {wss : List (List (List Nat))} (h : ∀ ws ∈ wss, OrigL ws) : ∀ x ∈ cutP sepB (textOf wss), Ow x := by
  intro x hx
  rw [text_words h] at hx
  rcases List.mem_append.mp hx with hx | hx
  · obtain ⟨ws, h1, h2⟩ := List.mem_flatten.mp hx
    exact ((h ws h1).2.2 x h2).ow
  · rw [List.mem_singleton.mp hx]
    exact Ow.nil
theorem text_cut : ∀ {wss : List (List (List Nat))}, (∀ ws ∈ wss, OrigL ws) → cut 10 (textOf wss) = wss.map (TL.joinL [32]) ++ [[]]
  | [], _ => rfl
  | ws :: r, h => by
    have hw := h ws (List.mem_cons_self ..)
    have hn : ∀ c ∈ TL.joinL [32] ws, (fun x => decide (x = 10)) c = false := fun c hc => by
      rcases joinL_memC hc with rfl | ⟨y, h1, h2⟩
      · rfl
      · have : 33 ≤ c ∧ c < 128 := of_decide_eq_true ((hw.2.2 y h1).sg c h2)
        exact decide_eq_false (by omega)
    rw [textOf_cons, cut_cutP, cutP_word (by rfl) _ hn, ← cut_cutP, text_cut fun x hx => h x (List.mem_cons_of_mem _ hx)]
    rfl
theorem text_line {wss : List (List (List Nat))} (h : ∀ ws ∈ wss, OrigL ws) : ∀ y ∈ cut 10 (textOf wss), y.length ≤ 92 := by
  intro y hy
  rw [text_cut h] at hy
  rcases List.mem_append.mp hy with hy | hy
  · obtain ⟨ws, h1, rfl⟩ := List.mem_map.mp hy
    have h2 := joinL_len (m := 22) fun x hx => ((h ws h1).2.2 x hx).len
    have h3 := (h ws h1).2.1
    have h4 : ws.length * (22 + 1) ≤ 92 := by omega
    omega
  · rw [List.mem_singleton.mp hy]
    exact Nat.zero_le _
theorem text_asc : ∀ {wss : List (List (List Nat))}, (∀ ws ∈ wss, OrigL ws) → Asc (textOf wss)
  | [], _ => fun c hc => by cases hc
  | ws :: r, h => by
    have hw := h ws (List.mem_cons_self ..)
    have ih := text_asc (wss := r) fun x hx => h x (List.mem_cons_of_mem _ hx)
    intro c hc
    rw [textOf_cons] at hc
    rcases List.mem_append.mp hc with hc | hc
    · rcases joinL_memC hc with rfl | ⟨y, h1, h2⟩
      · decide
      · have : 33 ≤ c ∧ c < 128 := of_decide_eq_true ((hw.2.2 y h1).sg c h2)
        omega
    · rcases List.mem_cons.mp hc with rfl | hc
      · decide
      · exact ih c hc
theorem sign_asc {c : Nat} (h : c ∈ signsL) : c < 128 := by
  have : ∀ y ∈ signsL, y < 128 := by decide +kernel
  exact this c h
/-- what is asked of a spoilt text -/
structure FitT (l : List Nat) : Prop where
  good : ∀ x ∈ cutP sepB l, GoodW x
  wl : Pc sepB 60 l
  ll : ∀ y ∈ cut 10 l, y.length ≤ 900
  asc : Asc l
  len : l.length ≤ 1900
theorem FitT.fit {l : List Nat} (F : FitT l) : FitL (linesOf l) := by
  have hm : ∀ y ∈ linesOf l, y ∈ cut 10 l := fun y hy => by rw [cut_last]; exact List.mem_append_left _ hy
  have hc := cut_count (c := 10) l
  rw [cut_last, List.length_append, List.length_singleton] at hc
  have hl := F.len
  exact ⟨⟨fun y hy => F.asc.cut (hm y hy), fun y hy => F.ll y (hm y hy), by omega, fun y hy x hx => F.good x (word_in (hm y hy) hx)⟩, fun y hy x hx => F.wl x (word_in (hm y hy) hx)⟩
/-- a part of a written text is another -/
theorem fit_part {wss : List (List (List Nat))} (h : ∀ ws ∈ wss, OrigL ws) (hn : wss.length ≤ 12) {p X Y q : List Nat} (e : textOf wss = p ++ X ++ q) (hY : Y.length ≤ 2) (ha : ∀ c ∈ Y, c < 128) (hg : ∀ x ∈ cutP sepB (p ++ Y ++ q), GoodW x) : FitT (p ++ Y ++ q) := by
  have hl := textOf_len (m := 93) fun ws hw => (h ws hw).len
  rw [e, List.length_append, List.length_append] at hl
  have hl2 : wss.length * 93 ≤ 1116 := by omega
  refine ⟨hg, ?_, ?_, ?_, ?_⟩
  · have : Pc sepB 22 (p ++ X ++ q) := fun x hx => (text_ow h x (by rw [e]; exact hx)).1
    exact (this.spoil hY).mono (by decide)
  · have : Pc (fun x => decide (x = 10)) 92 (p ++ X ++ q) := line_Pc.mpr fun y hy => text_line h y (by rw [e]; exact hy)
    exact line_Pc.mp ((this.spoil hY).mono (by decide))
  · have := text_asc h
    rw [e] at this
    intro c hc
    rcases List.mem_append.mp hc with hc | hc
    · rcases List.mem_append.mp hc with hc | hc
      · exact this c (List.mem_append_left _ (List.mem_append_left _ hc))
      · exact ha c hc
    · exact this c (List.mem_append_right _ hc)
  · rw [List.length_append, List.length_append]
    omega
/-- lines out or in -/
theorem fit_lines {wss : List (List (List Nat))} (h : ∀ ws ∈ wss, OrigL ws) (hn : wss.length ≤ 12) {L : List (List Nat)} (hL : ∀ y ∈ L, y ∈ cut 10 (textOf wss)) (hl : L.length ≤ wss.length + 2) : FitT (TL.joinL [10] L) := by
  have no10 : ∀ y ∈ L, ∀ c ∈ y, c ≠ 10 := fun y hy c hc => (cut_mem (hL y hy) c hc).2
  have hcut : ∀ y ∈ cut 10 (TL.joinL [10] L), y = [] ∨ y ∈ L := fun y hy => by
    by_cases hn : L = []
    · subst hn
      exact .inl (List.mem_singleton.mp (show y ∈ [[]] from hy))
    · rw [cut_joinL hn no10] at hy
      exact .inr hy
  have hw : ∀ x ∈ cutP sepB (TL.joinL [10] L), Ow x := fun x hx => by
    rw [cut_flat] at hx
    obtain ⟨y, h1, h2⟩ := List.mem_flatMap.mp hx
    rcases hcut y h1 with rfl | h3
    · rw [List.mem_singleton.mp (show x ∈ [[]] from h2)]
      exact Ow.nil
    · exact text_ow h x (word_in (hL y h3) h2)
  have hlen : ∀ y ∈ L, y.length ≤ 92 := fun y hy => text_line h y (hL y hy)
  refine ⟨fun x hx => (hw x hx).good, fun x hx => Nat.le_trans (hw x hx).1 (by decide), fun y hy => ?_, fun c hc => ?_, ?_⟩
  · rcases hcut y hy with rfl | h3
    · exact Nat.zero_le _
    · exact Nat.le_trans (hlen y h3) (by decide)
  · rcases joinL_memC hc with rfl | ⟨y, h1, h2⟩
    · decide
    · exact text_asc h c (cut_mem (hL y h1) c h2).1
  · have := joinL_lenC (c := 10) hlen
    have h2 : L.length * (92 + 1) ≤ 14 * 93 := Nat.mul_le_mul (by omega) (by decide)
    omega
theorem spoilt_fit {wss : List (List (List Nat))} (h : ∀ ws ∈ wss, OrigL ws) (hn : wss.length ≤ 12) {l' : List Nat} (hs : Spoilt (textOf wss) l') : FitT l' := by
  obtain ⟨k, sg, row, hk, hsg, hrow, hs⟩ := hs
  have how := text_ow h
  have hcl : (cut 10 (textOf wss)).length = wss.length + 1 := by rw [text_cut h, List.length_append, List.length_map]; rfl
  have ha : ∀ c ∈ [sg], c < 128 := fun c hc => by rw [List.mem_singleton.mp hc]; exact sign_asc hsg
  have self : FitT (textOf wss) := by
    have := fit_part h hn (p := textOf wss) (X := []) (Y := []) (q := []) (by simp) (by decide) (fun c hc => by cases hc) (by simpa using fun x hx => (how x hx).good)
    simpa using this
  have split : textOf wss = (textOf wss).take k ++ (textOf wss).drop k := (List.take_append_drop k _).symm
  have inn : ∀ {p q : List Nat}, textOf wss = p ++ q → FitT (p ++ [sg] ++ q) ∧ FitT p := fun {p q} e => by
    obtain ⟨g1, g2⟩ := fit_in (p := p) (q := q) (by rw [← e]; exact how)
    refine ⟨fit_part h hn (X := []) (by rw [List.append_nil]; exact e) (by show 1 ≤ 2; decide) ha (by rw [List.append_assoc]; exact g1 sg), ?_⟩
    have := fit_part h hn (p := p) (X := q) (Y := []) (q := []) (by rw [List.append_nil]; exact e) (by decide) (fun c hc => by cases hc) (by simpa using g2)
    simpa using this
  by_cases hk2 : k < (textOf wss).length
  case neg =>
    have hd : (textOf wss).drop k = [] := List.drop_of_length_le (by omega)
    have hd1 : (textOf wss).drop (k + 1) = [] := List.drop_of_length_le (by omega)
    have hd2 : (textOf wss).drop (k + 2) = [] := List.drop_of_length_le (by omega)
    have ht : (textOf wss).take k = textOf wss := List.take_of_length_le (by omega)
    rw [hd, hd1, hd2, ht] at hs
    have i0 := (inn (p := textOf wss) (q := []) (by simp)).1
    rw [List.append_nil] at i0
    rcases hs with rfl | rfl | rfl | rfl | rfl | rfl | rfl | rfl | rfl
    · rw [List.append_nil]; exact self
    · rw [List.append_nil]; exact i0
    · rw [List.append_nil]; exact i0
    · refine fit_lines h hn (fun y hy => ?_) ?_
      · rcases List.mem_append.mp hy with hy | hy
        · exact List.mem_of_mem_take hy
        · exact List.mem_of_mem_drop hy
      · rw [List.length_append, List.length_take, List.length_drop]; omega
    · refine fit_lines h hn (fun y hy => ?_) ?_
      · rcases List.mem_append.mp hy with hy | hy
        · exact List.mem_of_mem_take hy
        · exact List.mem_of_mem_drop hy
      · rw [List.length_append, List.length_take, List.length_drop]; omega
    · rw [List.dropLast_eq_take]
      exact (inn (p := (textOf wss).take ((textOf wss).length - 1)) (q := (textOf wss).drop ((textOf wss).length - 1)) (List.take_append_drop _ _).symm).2
    · exact self
    · exact i0
    · simpa using self
  obtain ⟨c, q, hc⟩ : ∃ c q, (textOf wss).drop k = c :: q := ⟨_, _, List.drop_eq_getElem_cons hk2⟩
  have hd1 : (textOf wss).drop (k + 1) = q := by rw [← List.drop_drop, hc]; rfl
  have e1 : textOf wss = (textOf wss).take k ++ c :: q := by rw [← hc]; exact split
  generalize hp : (textOf wss).take k = p at hs e1 split
  have e1' : textOf wss = p ++ [c] ++ q := by rw [List.append_assoc]; exact e1
  obtain ⟨o1, o2⟩ := fit_out (p := p) (q := q) (c := c) (by rw [← e1]; exact how)
  rcases hs with rfl | rfl | rfl | rfl | rfl | rfl | rfl | rfl | rfl
  · rw [hd1]
    have := fit_part h hn e1' (Y := []) (by decide) (fun c hc => by cases hc) (by rw [List.append_nil]; exact o1)
    rwa [List.append_nil] at this
  · exact (inn split).1
  · rw [hd1]
    exact fit_part h hn e1' (by show 1 ≤ 2; decide) ha (by rw [List.append_assoc]; exact o2 sg)
  · refine fit_lines h hn (fun y hy => ?_) ?_
    · rcases List.mem_append.mp hy with hy | hy
      · exact List.mem_of_mem_take hy
      · exact List.mem_of_mem_drop hy
    · rw [List.length_append, List.length_take, List.length_drop]; omega
  · refine fit_lines h hn (fun y hy => ?_) ?_
    · rcases List.mem_append.mp hy with hy | hy
      · exact List.mem_of_mem_take hy
      · exact List.mem_of_mem_drop hy
    · rw [List.length_append, List.length_take, List.length_drop]; omega
  · rw [List.dropLast_eq_take]
    exact (inn (p := (textOf wss).take ((textOf wss).length - 1)) (q := (textOf wss).drop ((textOf wss).length - 1)) (List.take_append_drop _ _).symm).2
  · exact (inn split).2
  · have i0 := (inn (p := textOf wss) (q := []) (by simp)).1
    rwa [List.append_nil] at i0
  · have hd2 : (textOf wss).drop (k + 2) = q.drop 1 := by rw [show k + 2 = k + 1 + 1 from rfl, ← List.drop_drop, hd1]
    rw [hc, hd2]
    cases q with
    | nil =>
      have : p ++ [c].reverse ++ ([] : List Nat) = textOf wss := by rw [e1]; simp
      show FitT (p ++ [c].reverse ++ [])
      rw [this]
      exact self
    | cons d q =>
      show FitT (p ++ [d, c] ++ q)
      have hasc := text_asc h
      have e2 : textOf wss = p ++ [c, d] ++ q := by rw [e1]; simp
      have hsw := fit_swap (p := p) (q := q) (c := c) (d := d) (by rw [← e1]; exact how)
      refine fit_part h hn e2 (by show 2 ≤ 2; decide) (fun x hx => hasc x ?_) (by rw [List.append_assoc]; exact hsw)
      rw [e2]
      simp only [List.mem_cons, List.not_mem_nil, or_false] at hx
      rcases hx with rfl | rfl <;> simp
end Km
set_option Elab.async false
set_option linter.all false
set_option maxRecDepth 100000
set_option maxHeartbeats 4000000
/-! the law's telling: a lambda, an error caught -/
namespace Km
open PySem PySem.Spec PyProof.Rows L2
structure Lt (P : Program) (K : PySem.W.Frag) (mg : Str → Option Value) (w : World) : Prop where
  l : Lw P K mg w
  gM : mg "MeaningError" = some (.ref (He.ga K "MeaningError"))
  eM : PySem.W.exmOne K (.ref (He.ga K "BadText")) (.ref (He.ga K "MeaningError")) = some true
  cT : ExcC K (He.ga K "BadText")
  kT : PySem.W.kitOne K (.ref (He.ga K "BadText")) (.ref (He.ga K "BadText")) = some true
  xT : XfC K (He.ga K "BadText")
  nT : PySem.W.findIn K (.ref (He.ga K "BadText")) "row" = some none
section
variable {P : Program} {w : World} {K : PySem.W.Frag} {mg : Str → Option Value} {base : Heap}
def laQ : Str := "_law_right.<locals>." ++ "<lambda>"
/-- BadText(row) is told as ("bad", row) -/
def TTb (K : PySem.W.Frag) : (XK → Hp → VK → Prop) → Hp → VK → Prop := fun tl H Q =>
  tl (fun cls d H' => ∃ dd, ∃ n : Nat, cls = .ref (He.ga K "BadText") ∧ d = some dd ∧ H' dd = some (.xd [("row", .int (n : Int))]) ∧ ∀ t, H' t = none → Q (.ref t) (upd H' t (.tup [.str "bad", .int (n : Int)]))) H Q
/-- what is raised stands among as many slots as there are names -/
theorem takes_len {X : Cx} {W : WX} (t : Takes X W) : Takes X (fun c d σ H => σ.length = X.N.length → W c d σ H) := fun u s' ⟨a, B, sI, pins, σ, H, cls, d, e, I, nb, up, sky, na, os, ag, w⟩ =>
  t u s' ⟨a, B, sI, pins, σ, H, cls, d, e, I, nb, up, sky, na, os, ag, w I.len⟩
theorem two_slots {σ : L2.St} {v : Option V} (h : σ.length = 2) : (σ.set 1 v)[1]? = some v := by
  match σ, h with
  | [a, b], _ => rfl
theorem told_giv {X : Cx} (T : Lt X.prog X.K X.mg X.w) {g : Addr} {cdg : Value} {q : Str} : LamX.GivesTo X ["ask", "error"] "_law_told" (defScope (top 78)) g cdg (defBody (top 78)) "ask" q (TTb X.K) := by
  intro f c' s H Q tl act hc h
  have B := T.l.t.r.f.B
  have nd : (["ask", "error"] : List Str).Nodup := by decide +kernel
  refine ⟨_, pss_one (ps_try_as (X := (cxOf C8.CX0 X.prog X.w X.K X.mg X.base ["ask", "error"] "_law_told" (defScope (top 78)) g cdg X.A X.stack s H C8.E0).nox) (i := 1) (c := .ref (He.ga X.K "MeaningError"))
      (tb := fun W D σ H => ∃ Ech : XK, (∀ cls d σ' H', σ'.length = 2 → Ech cls d H' → W cls d σ' H') ∧ σ[0]? = some (some (.ref f)) ∧ H c' = some (LamX.CodeO c' q) ∧ tl Ech H D.rt)
      rfl rfl nd rfl rfl ⟨rfl, by decide, .inl T.gM⟩ LamX.takes0 (fun W pn xe tk _ => ?_) (fun a oe cls d pn hz hf => pss_one (ps_ret
        (pe_ifExp (pt_val (pe_callB (call_isE T.cT hz hf) (by rfl) B.isinstance_ (by decide +kernel) (pa_cons (pv 1) (pa_cons (pe_glob (by rfl) T.l.t.gT (show RelV (.ref (He.ga X.K "BadText")) _ from rfl)) pa_nil))))
          (pe_tup (pa_cons pe_str (pa_cons (pe_xf T.xT T.nT hz hf (pv 1)) pa_nil))) (pe_tup (pa_cons pe_str (pa_cons pe_non pa_nil))))))), ?_⟩
  · refine ⟨fun pins s' σ H' D I h' => ?_⟩
    obtain ⟨Ech, hW, h1, h2, h3⟩ := h'
    exact (pss_one (ps_ret (act _ pn xe Ech _ _ (takes_len tk) fun cls d σ' H' he hl => hW cls d σ' H' hl he))).run pins s' σ H' D I ⟨h1, h2, h3⟩
  · refine ⟨fun cls d H' => ∃ dd, ∃ n : Nat, cls = .ref (He.ga X.K "BadText") ∧ d = some dd ∧ H' dd = some (.xd [("row", .int (n : Int))]) ∧ ∀ t, H' t = none → Q (.ref t) (upd H' t (.tup [.str "bad", .int (n : Int)])), ?_, rfl, hc, h⟩
    rintro cls d σ' H' hl ⟨dd, n, rfl, rfl, hx, k⟩
    refine ⟨true, T.eM, fun _ a ha => ?_, fun h => Bool.noConfusion h⟩
    refine ⟨_, two_slots hl, _, .ref (He.ga X.K "BadText"), true, dd, _, rfl, rfl, rfl, hx, fun u hu => hu, T.kT, true, rfl, iteT ?_⟩
    exact ⟨_, two_slots hl, rfl, rfl, dd, _, _, rfl, hx, rfl, by show 2 ≤ sizeLine; decide, fun t ht => k t ht⟩
end
end Km
set_option Elab.async false
set_option linter.all false
set_option maxRecDepth 100000
set_option maxHeartbeats 4000000
/-! what is asked of bad lines, plain -/
namespace Km
open PySem PySem.Spec PyProof.Rows L2
def bdV (ls : List (List Nat)) (wh : Bool) : Int := match planAt ls wh with
  | some n => (n : Int)
  | none => -1
theorem some_lt {k : List Nat} {m : Nat} {e : Bool} {ls : List (List Nat)} {i : Nat} (h : someOk k m e ls[i]? = true) : i < ls.length := by
  cases e1 : ls[i]? with
  | none => rw [e1] at h; cases h
  | some l => exact (List.getElem?_eq_some_iff.mp e1).1
theorem planAt_open (ls : List (List Nat)) : planAt ls false = match planAt ls true with
  | some n => some n
  | none => some ls.length := by
  unfold planAt
  cases bookR ls with
  | bad a => rfl
  | ok b s fs =>
    dsimp only
    cases take1 (cs "columns") ls[2 + fs.length]? with
    | none => rfl
    | some c =>
      dsimp only
      by_cases hc : 1 ≤ c ∧ c ≤ 2
      case neg => rw [if_pos hc, if_pos hc]
      rw [if_neg (not_not_intro hc), if_neg (not_not_intro hc)]
      cases hr : (thGo b fs.length c [] (ls.drop (3 + fs.length))) with
      | mk r1 r2 =>
        dsimp only
        cases r1 with
        | false => rfl
        | true =>
          rw [if_neg (show ¬ (true = false) by decide), if_neg (show ¬ (true = false) by decide)]
          by_cases h2 : r2 = []
          · rw [if_pos h2, if_pos h2]
          · rw [if_neg h2, if_neg h2]
            cases h3 : someOk (cs "free") fs.length true ls[3 + fs.length + r2.length]? with
            | false => rfl
            | true =>
              rw [if_neg (show ¬ (true = false) by decide), if_neg (show ¬ (true = false) by decide)]
              cases h4 : someOk (cs "writers") s false ls[3 + fs.length + r2.length + 1]? with
              | false => rfl
              | true =>
                rw [if_neg (show ¬ (true = false) by decide), if_neg (show ¬ (true = false) by decide)]
                cases h5 : someOk (cs "askers") s false ls[3 + fs.length + r2.length + 2]? with
                | false => rfl
                | true =>
                  rw [if_neg (show ¬ (true = false) by decide), if_neg (show ¬ (true = false) by decide)]
                  have hlt := some_lt h5
                  rw [if_pos (.inr rfl)]
                  by_cases h6 : 3 + fs.length + r2.length + 3 < ls.length
                  · rw [if_pos (.inl h6)]
                  · rw [if_neg (by simp; omega)]
                    dsimp only
                    rw [show 3 + fs.length + r2.length + 3 = ls.length by omega]
/-- bad, or how many lines there are -/
theorem bad_if (ls : List (List Nat)) (wh : Bool) : (if (decide (pbV ls = -1) && !wh) = true then (ls.length : Int) else pbV ls) = bdV ls wh := by
  unfold bdV pbV
  cases wh with
  | true =>
    rw [Bool.not_true, Bool.and_false, if_neg (by decide)]
    all_goals rfl
  | false =>
    rw [planAt_open]
    cases planAt ls true with
    | none => rfl
    | some n =>
      dsimp only
      rw [decide_eq_false (by omega), Bool.false_and, if_neg (by decide)]
theorem funsGo_len {b : Nat} : ∀ (ls : List (List Nat)) (fs : List (List Tr)), (funsGo b fs ls).2.length ≤ fs.length + ls.length
  | [], fs => by simp [funsGo]
  | l :: ls, fs => by
    unfold funsGo
    cases cut 32 l with
    | nil => simp
    | cons h ws =>
      dsimp only
      split
      · cases treesOf ws with
        | none => simp
        | some bs =>
          dsimp only
          split
          · have := funsGo_len (b := b) ls (fs ++ [bs])
            rw [List.length_append, List.length_singleton] at this
            rw [List.length_cons]
            omega
          · simp
      · simp
theorem take1_at {k : List Nat} {ls : List (List Nat)} {i n : Nat} (h : take1 k ls[i]? = some n) : i < ls.length := by
  cases e1 : ls[i]? with
  | none => rw [e1] at h; cases h
  | some l => exact (List.getElem?_eq_some_iff.mp e1).1
theorem book_len {ls : List (List Nat)} {b s : Nat} {fs : List (List Tr)} (h : bookR ls = .ok b s fs) : 2 + fs.length ≤ ls.length := by
  unfold bookR at h
  cases e1 : take1 (cs "base") ls[0]? with
  | none => rw [e1] at h; cases h
  | some b' =>
    rw [e1] at h
    dsimp only at h
    split at h
    · cases h
    cases e2 : take1 (cs "settings") ls[1]? with
    | none => rw [e2] at h; cases h
    | some s' =>
      rw [e2] at h
      dsimp only at h
      split at h
      · cases h
      split at h
      · split at h
        · cases h
        · cases h
          have h1 := funsGo_len (b := b) (ls.drop 2) []
          have h2 := take1_at e2
          rw [List.length_drop] at h1
          simp only [List.length_nil] at h1
          omega
      · cases h
end Km
set_option Elab.async false
set_option linter.all false
set_option maxRecDepth 100000
set_option maxHeartbeats 4000000
/-! the law's question -/
namespace Km
open PySem PySem.Spec PyProof.Rows L2
section
variable {P : Program} {w : World} {K : PySem.W.Frag} {mg : Str → Option Value} {base : Heap}
theorem scTold : FnScope ["ask", "error"] ["ask"] (defScope (top 78)) := ⟨rfl, rfl, rfl, by decide +kernel, rfl, by decide +kernel, by decide +kernel⟩
theorem scRt : FnScope ["script", "at", "parts", "lines", "is_whole", "found", "bad", "base", "many", "settings", "text"] ["script", "at", "parts"] (defScope (top 80)) := ⟨rfl, rfl, rfl, by decide +kernel, rfl, by decide +kernel, by decide +kernel⟩
theorem FunD.okC {x qual : Str} {st : Stmt} {f : Addr} {fd : FuncData} {CX : CXT} {N ps : List Str} {k : Nat} {sp : Sp} {c : Addr} (F : Dfn K x qual st f fd) (hc : fd.code = .ref c) (S : FnScope N ps (defScope st)) (len : ∀ vs H Q E, sp vs H Q E → vs.length = ps.length)
    (hbody : ∀ (A : Around) (outer : List Env) (s : Shared) (H : Hp) (vs : List V) (Q : VK) (E : XK), Room k (A.deeper (envOfC qual (defScope st) s.heap.objs.size f (.ref c))) → sp vs H Q E →
      ∃ t, PSs (cxOf CX P w K mg base N qual (defScope st) f (.ref c) A outer s H E) (defBody st) t ∧ t { nx := fun _ H' => Q .non H', rt := Q } (L2.start N vs) H) : FnOk P w K mg base CX (k + 1) f fd ps sp := by
  obtain ⟨oc, od, dV, kV, doc, pm, an, cdv, ct, osl, rfl, lk, hcd, _, _⟩ := F.ex
  have e : cdv = .ref c := hc
  subst e
  exact fn_of lk hcd S len fun A outer s H vs Q E hr hsp => hbody A outer s H vs Q E hr hsp
theorem LamX_ext_tups {H H' : Hp} (h : LamX.ExtN H H') : Tups H H' := fun b xs e => h b _ e (fun ps z => by cases z)
theorem PlV.ext {H H' : Hp} {v : V} (h : PlV H v) (s : LamX.ExtN H H') : PlV H' v := by
  obtain ⟨a, b, st, c, n, fv, tv, xv, yv, zv, rfl, ha, hb, hst, hc, hn, hfv, htv, hxv, hyv, hzv⟩ := h
  have tp := LamX_ext_tups s
  exact ⟨a, b, st, c, n, fv, tv, xv, yv, zv, rfl, s _ _ ha (fun ps z => by cases z), hb, hst, hc, hn, hfv.tups tp, htv.tups tp, hxv.tups tp, hyv.tups tp, hzv.tups tp⟩
/-- what is found: a plan (or book), or the row of what is bad -/
def FndAt (K : PySem.W.Frag) (x : Str) (o : Option Nat) (v : V) (H : Hp) : Prop := (∃ n a, o = some n ∧ v = .ref a ∧ H a = some (.tup [.str "bad", .int (n : Int)])) ∨ (o = none ∧ ∃ a dx fs, v = .ref a ∧ H a = some (.ins (He.ga K x) dx fs))
theorem FndAt.same {x : Str} {o : Option Nat} {v : V} {H H' : Hp} (h : FndAt K x o v H) (s : Same H H') : FndAt K x o v H' := by
  rcases h with ⟨n, a, h1, h2, h3⟩ | ⟨h1, a, dx, fs, h2, h3⟩
  · exact .inl ⟨n, a, h1, h2, s _ _ h3⟩
  · exact .inr ⟨h1, a, dx, fs, h2, s _ _ h3⟩
theorem ext_same {H H' : Hp} (s : Same H H') : LamX.ExtN H H' := .of s
theorem tabs_same {T : List (Addr × Str)} {H H' : Hp} (t : LamX.Tabs T H) (s : Same H H') : LamX.Tabs T H' := t.ext s
theorem ScAt.ext {H H' : Hp} {v : V} (h : ScAt K H v) (s : LamX.ExtN H H') : ScAt K H' v := by
  obtain ⟨a, ns, e, h⟩ := h
  refine ⟨a, ns, e, ?_⟩
  rcases h with (h | ⟨o, h⟩) | h
  · exact .inl (.inl (s _ _ h (fun ps z => by cases z)))
  · exact .inl (.inr ⟨o, s _ _ h (fun ps z => by cases z)⟩)
  · exact .inr h
theorem shaped_bad (n : Int) : SeqAt.shaped (.tuple [.str "bad", .int n]) = true := by
  simp [SeqAt.shaped, PyData.canLay0, PyData.canLayAll0, PyData.depth, PyData.depthAll] <;> decide +kernel
theorem dp_bad {H : Hp} {a : Addr} {n : Int} (h : H a = some (.tup [.str "bad", .int n])) : Dp K H (.ref a) (.tuple [.str "bad", .int n]) := .tup (.inl (.inl h)) (.cons (.str _) (.cons (.int _) .nil))
theorem eqv_bad (n : Int) : PyData.eqv (.tuple [.str "bad", .int n]) (.tuple [.str "bad", .int n]) = true := by rw [eqv_t2]; simp
def spRight (K : PySem.W.Frag) (Pt : Addr) : Sp := fun vs H Q _ => ∃ (sv plv : V) (i : Nat), vs = [sv, .int (i : Int), plv] ∧ ScAt K H sv ∧ PlV H plv ∧ i ≤ 900 ∧ LamX.Tabs [(Pt, laQ)] H ∧ ∀ H', LamX.ExtN H H' → LamX.Tabs [(Pt, laQ)] H' → Q (.bl true) H'
theorem ok_right (T : Lt P K mg w) {f : Addr} {fd : FuncData} (D : Dfn K "_law_right" "_law_right" (top 80) f fd) (hm : mg "_law_right" = some (.ref f)) {c Pt : Addr} (hcd : fd.code = .ref c) (TB : LamX.TabB base mg c Pt) : CalX CX0 P w K mg base 68 "_law_right" (spRight K Pt) := by
  refine ⟨f, fd, ["script", "at", "parts"], FunD.okC D hcd scRt (fun vs H Q E ⟨sv, plv, i, e, _⟩ => by rw [e]; rfl) ?_, hm, D.kp, D.bindsN (fun _ _ _ _ _ _ us hl => match us, hl with | [_, _, _], _ => rfl)⟩
  rintro A outer s H vs Q E hr ⟨sv, plv, i, rfl, hsc, hpl, hi, htb, k⟩
  have B := T.l.t.r.f.B
  have nd := scRt.nd
  obtain ⟨fT, fdT, DT, gT⟩ := T.l.dTold.ex
  have bT := DT.bindsN (ps := ["ask"]) (fun _ _ _ _ _ _ us hl => match us, hl with | [_], _ => rfl)
  have kT := DT.kp
  obtain ⟨ocT, odT, dVT, kVT, docT, pmT, anT, cdT, ctT, oslT, rfl, lkT, hcT, _, _⟩ := DT.ex
  refine ⟨_, (pss_cons (ps_set (i := 10) nd rfl (Or.inr rfl) (pe_cx (ok_sp T.l) hr pass0 (by rfl) (pa_cons (pv 0) (pa_cons (pv 1) (pa_cons (pe_cx (ok_pt T.l) hr pass0 (by rfl) (pa_cons (pv 2) pa_nil)) pa_nil)))))
    (pss_cons (ps_asg (pe_tup (pa_cons (pe_cx (ok_ll T.l) hr pass0 (by rfl) (pa_cons (pv 10) pa_nil)) (pa_cons (LamX.pe_lamcall (T := [(Pt, laQ)]) (TT := TTb K) (Ng := ["ask", "error"]) (k := 33) (t := fun E => tCall (spRP K) [] E (tCons (tVar 10) tNil)) (by rfl) gT kT lkT hcT bT scTold rfl (Or.inl rfl) (told_giv (X := cxOf CX0 P w K mg base ["script", "at", "parts", "lines", "is_whole", "found", "bad", "base", "many", "settings", "text"] "_law_right" (defScope (top 80)) f (.ref c) A outer s H E) T) TB rfl (List.mem_singleton.mpr rfl) (fun p hp _ => by rw [List.mem_singleton.mp hp]; rfl) (hr.mono (by decide)) (LamX.lamS_by (sc := defScope (top 80)) (by decide +kernel)) rfl (fun _ _ _ _ _ => rfl) (fun A outer s H E f c hr2 => pe_cx (ok_rp T.l.t) hr2 (passes_call (takes_of rfl rfl rfl rfl) (fun _ _ _ _ h => h)) (by rfl) (pa_cons (pv 10) pa_nil))) pa_nil))) (pg_tup rfl (pgs_cons (pg_tup rfl (pgs_cons (pg_name (i := 3) nd rfl (Or.inl rfl)) (pgs_cons (pg_name (i := 4) nd rfl (Or.inl rfl)) pgs_nil))) (pgs_cons (pg_name (i := 5) nd rfl (Or.inl rfl)) pgs_nil))))
    (pss_cons (ps_set (i := 6) nd rfl (Or.inl rfl) (pe_cx (ok_pb T.l) hr pass0 (by rfl) (pa_cons (pv 3) pa_nil)))
    (pss_cons (ps_set (i := 6) nd rfl (Or.inl rfl) (pe_ifExp (PW.pt (pw_and (pt_cmpR op_eq (pv 6) (pe_un un_neg pe_int) (nomark _)) (pw_and1 (pt_not (pt_val (pv 4)))))) (pe_callB call_len (by rfl) B.len_ PySem.boot_len (pa_cons (pv 3) pa_nil)) (pv 6)))
    (pss_cons (ps_if (PW.pt (pw_or (PW.pt (pw_and (pt_cmpR op_ge (pv 6) pe_int (nomark _)) (pw_and1 (pt_cmpR (op_neD hr.units) (pv 5) (pe_tup (pa_cons pe_str (pa_cons (pv 6) pa_nil))) (nomark _))))) (pw_or1 (PW.pt (pw_and (pt_cmpR op_eq (pv 6) (pe_un un_neg pe_int) (nomark _)) (pw_and1 (pt_not (pt_val (pe_callB call_isi (by rfl) B.isinstance_ (by decide +kernel) (pa_cons (pv 5) (pa_cons (pe_glob (by rfl) T.l.t.p.C.g (show RelV (.ref (He.ga K "Plan")) _ from rfl)) pa_nil))))))))))) (pss_one (ps_ret pe_bl)) pss_nil)
    (pss_cons (ps_set (i := 10) nd rfl (Or.inr rfl) (pe_cx (ok_sp T.l) hr pass0 (by rfl) (pa_cons (pv 0) (pa_cons (pe_op op_add (pv 1) pe_int) (pa_cons (pe_cx (ok_bt T.l) hr pass0 (by rfl) (pa_cons (pv 2) pa_nil)) pa_nil)))))
    (pss_cons (ps_asg (pe_tup (pa_cons (pe_cx (ok_ll T.l) hr pass0 (by rfl) (pa_cons (pv 10) pa_nil)) (pa_cons (LamX.pe_lamcall (T := [(Pt, laQ)]) (TT := TTb K) (Ng := ["ask", "error"]) (k := 33) (t := fun E => tCall (spRB K) [] E (tCons (tVar 10) tNil)) (by rfl) gT kT lkT hcT bT scTold rfl (Or.inl rfl) (told_giv (X := cxOf CX0 P w K mg base ["script", "at", "parts", "lines", "is_whole", "found", "bad", "base", "many", "settings", "text"] "_law_right" (defScope (top 80)) f (.ref c) A outer s H E) T) TB rfl (List.mem_singleton.mpr rfl) (fun p hp _ => by rw [List.mem_singleton.mp hp]; rfl) (hr.mono (by decide)) (LamX.lamS_by (sc := defScope (top 80)) (by decide +kernel)) rfl (fun _ _ _ _ _ => rfl) (fun A outer s H E f c hr2 => pe_cx (ok_rb T.l.t) hr2 (passes_call (takes_of rfl rfl rfl rfl) (fun _ _ _ _ h => h)) (by rfl) (pa_cons (pv 10) pa_nil))) pa_nil))) (pg_tup rfl (pgs_cons (pg_tup rfl (pgs_cons (pg_name (i := 3) nd rfl (Or.inl rfl)) (pgs_cons (pg_name (i := 4) nd rfl (Or.inl rfl)) pgs_nil))) (pgs_cons (pg_name (i := 5) nd rfl (Or.inl rfl)) pgs_nil))))
    (pss_cons (ps_asg (pe_cx (ok_bb T.l) hr pass0 (by rfl) (pa_cons (pv 3) pa_nil)) (pg_tup rfl (pgs_cons (pg_name (i := 6) nd rfl (Or.inl rfl)) (pgs_cons (pg_name (i := 7) nd rfl (Or.inl rfl)) (pgs_cons (pg_name (i := 8) nd rfl (Or.inl rfl)) (pgs_cons (pg_name (i := 9) nd rfl (Or.inl rfl)) pgs_nil))))))
    (pss_cons (ps_if (PW.pt (pw_and (pt_cmpR op_gt (pv 8) pe_int (nomark _)) (pw_and (pt_cmpR op_eq (pv 6) (pe_callB call_len (by rfl) B.len_ PySem.boot_len (pa_cons (pv 3) pa_nil)) (nomark _)) (pw_and1 (pt_val (pv 4)))))) (pss_one (ps_ret (pe_callB call_isi (by rfl) B.isinstance_ (by decide +kernel) (pa_cons (pv 5) (pa_cons (pe_glob (by rfl) T.l.t.p.b.B.g (show RelV (.ref (He.ga K "Book")) _ from rfl)) pa_nil))))) pss_nil)
    (pss_one (ps_ret (pe_cmpR (op_eqD hr.units) (pv 5) (pe_tup (pa_cons pe_str (pa_cons (pv 6) pa_nil))) (nomark _))))))))))))), ?_⟩ --END
  have L2' : 2 ≤ sizeLine := by show 2 ≤ sizeLine; decide
  refine ⟨_, rfl, _, rfl, _, rfl, plv, rfl, hpl, fun wss H1 s1 hws hwn => ?_⟩
  have htl := textOf_len (m := 93) fun ws hw => (hws ws hw).len
  have htl : (textOf wss).length ≤ 1116 := by omega
  refine ⟨sv, i, textOf wss, rfl, hsc.same s1, by omega, by omega, fun l1 H2 s2 hsp => ?_⟩
  have F := spoilt_fit hws hwn hsp
  have FL := F.fit
  have Flen := F.len
  have s12 := s1.trans s2
  refine ⟨_, rfl, l1, rfl, by omega, fun t q H3 s3 ht hq h1 h2 => ?_⟩
  have s13 := s12.trans s3
  have tb3 := tabs_same htb s13
  obtain ⟨FF, hFF⟩ : ∃ FF : V → Hp → Prop, FF = (fun v H' => LamX.ExtN H3 H' ∧ LamX.Tabs [(Pt, laQ)] H' ∧ FndAt K "Plan" (planAt (linesOf l1) (wholeOf l1)) v H') := ⟨_, rfl⟩
  apply cutV2 FF
  case main =>
    intro after
    refine ⟨tb3, fun H4 e4 t4 => ?_⟩
    refine ⟨_, rfl, l1, rfl, by omega, FL.fit, fun a ha d H5 s5 hd hx => ⟨d, a, rfl, rfl, hx, fun tt htt => ?_⟩, fun hn a dx x H5 s5 hx => ?_⟩
    · have hh : FF (.ref tt) (upd H5 tt (.tup [.str "bad", .int (a : Int)])) := by
        rw [hFF]
        have s6 := s5.trans (same_upd (o := .tup [.str "bad", .int (a : Int)]) htt)
        exact ⟨e4.trans (ext_same s6), tabs_same t4 s6, .inl ⟨a, tt, ha, rfl, upd_same⟩⟩
      generalize upd H5 tt _ = H6 at hh ⊢
      generalize V.ref tt = v at hh ⊢
      exact after v H6 hh
    · have hh : FF (.ref a) H5 := by
        rw [hFF]
        exact ⟨e4.trans (ext_same s5), tabs_same t4 s5, .inr ⟨hn, a, dx, x, rfl, hx⟩⟩
      generalize V.ref a = v at hh ⊢
      exact after v H5 hh
  intro fv H4 hh
  rw [hFF] at hh
  clear hFF
  obtain ⟨e4, t4, hfnd⟩ := hh
  have nt : ∀ {xs : List V} {ps : Array Value}, HO.tup xs ≠ .tbl ps := fun z => by cases z
  have nl : ∀ {xs : List V} {ps : Array Value}, HO.lst xs ≠ .tbl ps := fun z => by cases z
  have h1 := e4 _ _ h1 (fun ps => nt)
  have h2 := e4 _ _ h2 (fun ps => nl)
  have eH := (ext_same s13).trans e4
  clear e4 s13 s12 s1 s2 s3 tb3 hsp hws htl hwn ht hq
  refine ⟨L2', fun tt htt => ⟨tt, _, rfl, .inl (.inl upd_same), rfl, _, _, rfl, ?_⟩⟩
  have z1 := same_upd (o := .tup [.ref t, fv]) htt
  have h1 := z1 _ _ h1
  have h2 := z1 _ _ h2
  have hfnd := hfnd.same z1
  have t4 := tabs_same t4 z1
  have eH := eH.trans (ext_same z1)
  generalize upd H4 tt _ = H5 at h1 h2 hfnd t4 eH ⊢
  clear z1 htt
  refine ⟨t, _, rfl, .inl (.inl h1), rfl, _, _, rfl, _, _, rfl, rfl, _, _, rfl, rfl, ?_⟩
  refine ⟨_, rfl, q, linesOf l1, rfl, h2, FL, fun H6 s6 => ?_⟩
  have h2 := s6 _ _ h2
  have hfnd := hfnd.same s6
  have t4 := tabs_same t4 s6
  have eH := eH.trans (ext_same s6)
  clear s6 h1
  generalize hls : linesOf l1 = ls at h2 hfnd ⊢
  generalize hwh : wholeOf l1 = wh at hfnd ⊢
  have hbi := bad_if ls wh
  have hwl : (wV ls).length = ls.length := by rw [wV, List.length_map]
  obtain ⟨FF, hFF⟩ : ∃ FF : V → Hp → Prop, FF = (fun v H' => v = .int (bdV ls wh) ∧ H' = H6) := ⟨_, rfl⟩
  refine ⟨_, rfl, _, rfl, rfl, _, rfl, ?_⟩
  apply cutV2 FF
  case main =>
    intro after
    rw [show decide (V.int (pbV ls) = V.int (-1)) = decide (pbV ls = -1) from by simp]
    cases hd : decide (pbV ls = -1) with
    | true =>
      refine iteT ⟨_, rfl, _, rfl, iteC (fun hw => ?_) (fun hw => ?_)⟩
      · refine ⟨_, rfl, .ref q, _, rfl, .inl ⟨_, SqL.of h2, rfl⟩, ?_⟩
        rw [hwl]
        have hh : FF (.int (ls.length : Int)) H6 := by
          rw [hFF]
          rw [hd, hw] at hbi
          exact ⟨by rw [← hbi]; rfl, rfl⟩
        generalize V.int (ls.length : Int) = v at hh ⊢
        exact after v H6 hh
      · have hh : FF (.int (pbV ls)) H6 := by
          rw [hFF]
          rw [hd, hw] at hbi
          exact ⟨by rw [← hbi]; rfl, rfl⟩
        exact ⟨_, rfl, after _ _ hh⟩
    | false =>
      have hh : FF (.int (pbV ls)) H6 := by
        rw [hFF]
        rw [hd] at hbi
        exact ⟨by rw [← hbi]; rfl, rfl⟩
      exact iteF (iteF ⟨_, rfl, after _ _ hh⟩)
  intro v H7 hh
  rw [hFF] at hh
  clear hFF
  obtain ⟨hv, hH⟩ := hh
  subst hv
  subst hH
  clear hbi h2
  obtain ⟨FF, hFF⟩ : ∃ FF : Hp → Prop, FF = (fun H' => Same H7 H') := ⟨_, rfl⟩
  refine ⟨_, rfl, _, _, rfl, rfl, _, rfl, ?_⟩
  apply cutG FF
  case main =>
    intro after
    have hc := hfnd
    rcases hc with ⟨n, a, e1, ef, e2⟩ | ⟨e1, a, dx, fs, ef, e2⟩
    · have hb : bdV ls wh = (n : Int) := by unfold bdV; rw [e1]
      rw [← hb] at e2
      rw [show decide ((0 : Int) ≤ bdV ls wh) = true from decide_eq_true (by omega)]
      refine iteT ⟨_, rfl, _, rfl, L2', fun t3 ht3 => ?_⟩
      have z3 := same_upd (o := .tup [.str "bad", .int (bdV ls wh)]) ht3
      have e3 := upd_sameN (o := .tup [.str "bad", .int (bdV ls wh)]) ht3
      have hh : FF (upd H7 t3 (.tup [.str "bad", .int (bdV ls wh)])) := by rw [hFF]; exact z3
      generalize upd H7 t3 (.tup [.str "bad", .int (bdV ls wh)]) = H9 at z3 e3 hh ⊢
      refine ⟨_, _, (by rw [ef]; exact dp_bad (z3 _ _ e2)), dp_bad e3, shaped_bad _, shaped_bad _, _, rfl, ?_⟩
      rw [eqv_bad, Bool.not_true]
      refine iteF ⟨_, rfl, _, rfl, rfl, _, rfl, ?_⟩
      rw [show decide (V.int (bdV ls wh) = V.int (-1)) = false from decide_eq_false fun e => by have := V.int.inj e; omega]
      exact iteF (iteF (after _ hh))
    · have hb : bdV ls wh = -1 := by unfold bdV; rw [e1]
      have hh : FF H7 := by rw [hFF]; exact Same.refl _
      rw [show decide ((0 : Int) ≤ bdV ls wh) = false from decide_eq_false (by omega)]
      refine iteF (iteF ⟨_, rfl, _, rfl, rfl, _, rfl, ?_⟩)
      rw [show decide (V.int (bdV ls wh) = V.int (-1)) = true from decide_eq_true (by rw [hb])]
      exact iteT ⟨_, rfl, .ref a, _, _, _, true, (by rw [ef]), .own _, T.l.t.p.C.ty e2, T.l.t.p.C.it, true, rfl, iteF (after _ hh)⟩
  intro H8 hh
  rw [hFF] at hh
  clear hFF
  have t4 := tabs_same t4 hh
  have eH := eH.trans (ext_same hh)
  clear hfnd hh hls hwh FL Flen F
  refine ⟨_, rfl, _, rfl, _, _, rfl, rfl, _, rfl, plv, rfl, hpl.ext eH, fun wss2 H9 s9 hws2 hwn2 => ?_⟩
  have htl := textOf_len (m := 93) fun ws hw => (hws2 ws hw).len
  have htl : (textOf wss2).length ≤ 1116 := by omega
  refine ⟨sv, i + 1, textOf wss2, rfl, (hsc.ext eH).same s9, by omega, by omega, fun l2 H10 s10 hsp2 => ?_⟩
  have F := spoilt_fit hws2 (by omega) hsp2
  have FL := F.fit
  have Flen := F.len
  have s12 := s9.trans s10
  have eH := eH.trans (ext_same s12)
  have t4 := tabs_same t4 s12
  clear s9 s10 s12 hsp2 htl hws2 hwn2
  refine ⟨_, rfl, l2, rfl, by omega, fun t2 q2 H11 s11 ht2 hq2 h1 h2 => ?_⟩
  have eH := eH.trans (ext_same s11)
  have t4 := tabs_same t4 s11
  clear s11 ht2 hq2
  obtain ⟨FF, hFF⟩ : ∃ FF : V → Hp → Prop, FF = (fun v H' => LamX.ExtN H11 H' ∧ LamX.Tabs [(Pt, laQ)] H' ∧ FndAt K "Book" (bookAt (linesOf l2) (wholeOf l2)) v H') := ⟨_, rfl⟩
  apply cutV2 FF
  case main =>
    intro after
    refine ⟨t4, fun H12 e12 t12 => ?_⟩
    refine ⟨_, rfl, l2, rfl, by omega, FL.fit, fun a ha d H13 s13 hd hx => ⟨d, a, rfl, rfl, hx, fun tt htt => ?_⟩, fun hn a dx x H13 s13 hx => ?_⟩
    · have hh : FF (.ref tt) (upd H13 tt (.tup [.str "bad", .int (a : Int)])) := by
        rw [hFF]
        have s6 := s13.trans (same_upd (o := .tup [.str "bad", .int (a : Int)]) htt)
        exact ⟨e12.trans (ext_same s6), tabs_same t12 s6, .inl ⟨a, tt, ha, rfl, upd_same⟩⟩
      generalize upd H13 tt _ = H6 at hh ⊢
      generalize V.ref tt = v at hh ⊢
      exact after v H6 hh
    · have hh : FF (.ref a) H13 := by
        rw [hFF]
        exact ⟨e12.trans (ext_same s13), tabs_same t12 s13, .inr ⟨hn, a, dx, x, rfl, hx⟩⟩
      generalize V.ref a = v at hh ⊢
      exact after v H13 hh
  intro fv2 H12 hh
  rw [hFF] at hh
  clear hFF
  obtain ⟨e12, t12, hfnd⟩ := hh
  have h1 := e12 _ _ h1 (fun ps => nt)
  have h2 := e12 _ _ h2 (fun ps => nl)
  have eH := eH.trans e12
  clear e12 t4
  refine ⟨L2', fun tt htt => ⟨tt, _, rfl, .inl (.inl upd_same), rfl, _, _, rfl, ?_⟩⟩
  have z1 := same_upd (o := .tup [.ref t2, fv2]) htt
  have h1 := z1 _ _ h1
  have h2 := z1 _ _ h2
  have hfnd := hfnd.same z1
  have t12 := tabs_same t12 z1
  have eH := eH.trans (ext_same z1)
  generalize upd H12 tt _ = H13 at h1 h2 hfnd t12 eH ⊢
  clear z1 htt
  refine ⟨t2, _, rfl, .inl (.inl h1), rfl, _, _, rfl, _, _, rfl, rfl, _, _, rfl, rfl, ?_⟩
  refine ⟨_, rfl, q2, linesOf l2, rfl, h2, FL, fun t3 i3 b3 m3 st3 H14 s14 ht3 hres => ⟨t3, _, rfl, .inl (.inl ht3), rfl, _, _, rfl, _, _, rfl, _, _, rfl, _, _, rfl, rfl, ?_⟩⟩
  have h2 := s14 _ _ h2
  have hfnd := hfnd.same s14
  have t12 := tabs_same t12 s14
  have eH := eH.trans (ext_same s14)
  clear s14 h1 ht3
  generalize linesOf l2 = ls2 at h2 hfnd hres ⊢
  generalize wholeOf l2 = wh2 at hfnd ⊢
  have hwl2 : (wV ls2).length = ls2.length := by rw [wV, List.length_map]
  have fin : ∀ H', Same H14 H' → Q (.bl true) H' := fun H' s' => k H' (eH.trans (ext_same s')) (tabs_same t12 s')
  generalize hσ : List.set _ 9 (some (V.int (st3 : Int))) = σ9
  have hσ2 : σ9 = [some sv, some (.int (i : Int)), some plv, some (.ref q2), some (.bl wh2), some fv2, some (.int (i3 : Int)), some (.int (b3 : Int)), some (.int (m3 : Int)), some (.int (st3 : Int)), some (.str (SX.S l2))] := by
    rw [← hσ]
    rfl
  clear hσ
  subst hσ2
  have badE : ∀ n : Nat, bookAt ls2 wh2 = some n → ∀ t4, H14 t4 = none → ∃ d e, Dp K (upd H14 t4 (.tup [.str "bad", .int (n : Int)])) fv2 d ∧ Dp K (upd H14 t4 (.tup [.str "bad", .int (n : Int)])) (.ref t4) e ∧ SeqAt.shaped d = true ∧ SeqAt.shaped e = true ∧ Q (.bl (PyData.eqv d e)) (upd H14 t4 (.tup [.str "bad", .int (n : Int)])) := by
    intro n hn t4 ht4
    rcases hfnd with ⟨n', a, e1, rfl, e2⟩ | ⟨e1, _⟩
    · rw [hn] at e1
      cases e1
      refine ⟨_, _, dp_bad (same_upd ht4 _ _ e2), dp_bad upd_same, shaped_bad _, shaped_bad _, ?_⟩
      rw [eqv_bad]
      exact fin _ (same_upd ht4)
    · rw [hn] at e1
      cases e1
  cases eb : bookR ls2 with
  | bad a =>
    rw [eb] at hres
    obtain ⟨rfl, rfl⟩ := hres
    have hba : bookAt ls2 wh2 = some i3 := by unfold bookAt; rw [eb]
    refine ⟨_, rfl, _, _, rfl, rfl, _, rfl, ?_⟩
    rw [show decide ((0 : Int) < ((0 : Nat) : Int)) = false from by decide]
    refine iteF (iteF ⟨_, rfl, _, rfl, L2', fun t4 ht4 => ?_⟩)
    exact badE i3 hba t4 ht4
  | ok b st fs =>
    rw [eb] at hres
    obtain ⟨rfl, rfl, rfl, rfl, hf1, _⟩ := hres
    have hlen := book_len eb
    have hba : bookAt ls2 wh2 = if 2 + fs.length < ls2.length ∨ wh2 = false then some (2 + fs.length) else none := by unfold bookAt; rw [eb]
    refine ⟨_, rfl, _, _, rfl, rfl, _, rfl, ?_⟩
    rw [show decide ((0 : Int) < ((fs.length : Nat) : Int)) = true from decide_eq_true (by omega)]
    refine iteT ⟨_, rfl, _, rfl, .ref q2, _, rfl, .inl ⟨_, SqL.of h2, rfl⟩, rfl, _, rfl, ?_⟩
    rw [hwl2]
    by_cases he : 2 + fs.length = ls2.length
    · rw [show decide (V.int ((2 + fs.length : Nat) : Int) = V.int (ls2.length : Int)) = true from decide_eq_true (by rw [he])]
      refine iteT ⟨_, rfl, _, rfl, ?_⟩
      cases wh2 with
      | true =>
        rw [if_neg (by simp; omega)] at hba
        rcases hfnd with ⟨n', a, e1, _⟩ | ⟨_, a, dx, x, rfl, e2⟩
        · rw [hba] at e1
          cases e1
        · exact iteT ⟨_, rfl, .ref a, _, _, _, true, rfl, .own _, T.l.t.p.b.B.ty e2, T.l.t.p.b.B.it, fin H14 (Same.refl _)⟩
      | false =>
        rw [if_pos (.inr rfl)] at hba
        exact iteF ⟨_, rfl, _, rfl, L2', fun t4 ht4 => badE (2 + fs.length) hba t4 ht4⟩
    · rw [show decide (V.int ((2 + fs.length : Nat) : Int) = V.int (ls2.length : Int)) = false from decide_eq_false fun e => by have := V.int.inj e; omega]
      rw [if_pos (.inl (by omega))] at hba
      exact iteF (iteF ⟨_, rfl, _, rfl, L2', fun t4 ht4 => badE (2 + fs.length) hba t4 ht4⟩)
end
end Km
set_option Elab.async false
set_option linter.all false
set_option maxRecDepth 100000
set_option maxHeartbeats 4000000
/-! the law -/
namespace Km
open PySem PySem.Spec PyProof.Rows L2
theorem lc_rangeC {lo c : Int} {n : Nat} {g : TG} {tt : TT} {te : TE} {vs : List Nat} {σ : L2.St} {H1 : Hp} {D : Addr} {Qd : Hp → Prop} (Pv : Nat → Hp → Prop) (h0 : Pv 0 (upd H1 D (.lst [])))
    (hs : ∀ i H, i < n → Pv i H → g (.int (lo + (i : Nat) * c)) (wipe σ vs) H fun σ2 H2 => wipe σ2 vs = wipe σ vs ∧ tt σ2 H2 fun b H3 =>
      if b = true then te σ2 H3 fun y H4 => ∃ acc, H4 D = some (.lst acc) ∧ acc.length < sizeLine ∧ Pv (i + 1) (upd H4 D (.lst (acc ++ [y]))) else Pv (i + 1) H3) (hd : ∀ H, Pv n H → Qd H) :
    ∃ W : Nat → Nat → Hp → Prop, (∃ m, W 0 m (upd H1 D (.lst []))) ∧ ∀ i m H, W i m H →
      ((Itc lo c n).stop i H ∧ Qd H) ∨ ((Itc lo c n).go i H ∧ ∃ Nx : Hp → Prop, (∀ H', Nx H' → ∃ m', m' < m ∧ W (i + 1) m' H') ∧ ∀ x H', (Itc lo c n).yld i H x H' → g x (wipe σ vs) H' fun σ2 H2 => wipe σ2 vs = wipe σ vs ∧ tt σ2 H2 fun b H3 =>
        if b = true then te σ2 H3 fun y H4 => ∃ acc, H4 D = some (.lst acc) ∧ acc.length < sizeLine ∧ Nx (upd H4 D (.lst (acc ++ [y]))) else Nx H3) := by
  refine ⟨fun i m H => m = n - i ∧ i ≤ n ∧ Pv i H, ⟨n, by simp, Nat.zero_le _, h0⟩, ?_⟩
  rintro i m H ⟨rfl, hi, p⟩
  by_cases hlt : i < n
  · refine .inr ⟨hlt, Pv (i + 1), fun H' p' => ⟨n - (i + 1), by omega, rfl, hlt, p'⟩, fun x H' y => ?_⟩
    obtain ⟨e, y⟩ := y
    subst e y
    exact hs i _ hlt p
  · have e : i = n := by omega
    subst e
    exact .inl ⟨Nat.le_refl _, hd H p⟩
theorem tabs_lst {T : List (Addr × Str)} {H : Hp} {D : Addr} {xs ys : List V} (t : LamX.Tabs T H) (h : H D = some (.lst xs)) : LamX.Tabs T (upd H D (.lst ys)) := fun p hp => by
  obtain ⟨ps, h1, h2, h3⟩ := t p hp
  refine ⟨ps, ?_, h2, fun pos cv hc => ?_⟩
  · rw [upd_ne (ne_of h1 h (by intro z; cases z))]
    exact h1
  · obtain ⟨c, e1, e2⟩ := h3 pos cv hc
    refine ⟨c, e1, ?_⟩
    rw [upd_ne (ne_of e2 h (by intro z; unfold LamX.CodeO at z; cases z))]
    exact e2
theorem rep_bl (n : Nat) : ∀ H : Hp, ((List.replicate n true).map V.bl) ++ [V.bl true] = (List.replicate (n + 1) true).map V.bl := fun _ => by
  rw [List.replicate_succ', List.map_append]
  rfl
section
variable {P : Program} {w : World} {K : PySem.W.Frag} {mg : Str → Option Value} {base : Heap}
theorem scLaw : FnScope ["script", "parts", "at"] ["script"] (defScope (top 81)) := ⟨rfl, rfl, rfl, by decide +kernel, rfl, by decide +kernel, by decide +kernel⟩
def spLaw (K : PySem.W.Frag) (Pt : Addr) : Sp := fun vs H Q _ => ∃ (a : Addr) (ns : List Int), vs = [.ref a] ∧ SqL K H a (ns.map V.int) ∧ LamX.Tabs [(Pt, laQ)] H ∧ ∀ H', Q (.bl true) H'
theorem szv {H : Hp} {a : Addr} {b st c mo mn : Nat} (h : H a = some (.tup [.int (b : Int), .int (st : Int), .int (c : Int), .int (mo : Int), .int (mn : Int)])) (h1 : 2 ≤ b ∧ b ≤ 3) (h2 : 1 ≤ st ∧ st ≤ 3) (h3 : 1 ≤ c ∧ c ≤ 2) (h4 : 1 ≤ mo ∧ mo ≤ 3) (h5 : 1 ≤ mn ∧ mn ≤ 3) : SzV H (.ref a) := ⟨a, b, st, c, mo, mn, rfl, h, h1, h2, h3, h4, h5⟩
theorem ok_law (T : Lt P K mg w) {f : Addr} {fd : FuncData} (D : Dfn K "_law_right" "_law_right" (top 80) f fd) (hm : mg "_law_right" = some (.ref f)) {c Pt : Addr} (hcd : fd.code = .ref c) (TB : LamX.TabB base mg c Pt)
    {fl : Addr} {fdl : FuncData} (DL : Dfn K "law" "law" (top 81) fl fdl) : FnOk P w K mg base CX0 69 fl fdl ["script"] (spLaw K Pt) := by
  refine DL.ok scLaw (fun vs H Q E ⟨a, ns, e, _⟩ => by rw [e]; rfl) ?_
  rintro cdv A outer s H vs Q E hr ⟨a, ns, rfl, hsl, htb, k⟩
  have B := T.l.t.r.f.B
  have nd := scLaw.nd
  refine ⟨_, (pss_cons (ps_set (i := 1) nd rfl (Or.inr rfl) (pe_cx (ok_planL T.l) hr pass0 (by rfl) (pa_cons (pv 0) (pa_cons pe_int (pa_cons (pe_lst (pa_cons (pe_tup (pa_cons pe_int (pa_cons pe_int (pa_cons pe_int (pa_cons pe_int (pa_cons pe_int pa_nil)))))) (pa_cons (pe_tup (pa_cons pe_int (pa_cons pe_int (pa_cons pe_int (pa_cons pe_int (pa_cons pe_int pa_nil)))))) (pa_cons (pe_tup (pa_cons pe_int (pa_cons pe_int (pa_cons pe_int (pa_cons pe_int (pa_cons pe_int pa_nil)))))) (pa_cons (pe_tup (pa_cons pe_int (pa_cons pe_int (pa_cons pe_int (pa_cons pe_int (pa_cons pe_int pa_nil)))))) (pa_cons (pe_tup (pa_cons pe_int (pa_cons pe_int (pa_cons pe_int (pa_cons pe_int (pa_cons pe_int pa_nil)))))) pa_nil)))))) pa_nil)))))
    (pss_one (ps_ret (pe_callB (cr_all rfl) (by rfl) B.all_ (by decide +kernel) (pa_cons (pe_lc (own := [("at", 2)]) (by rfl) nd (pi_range3 (by rfl) B.range_ (pa_cons pe_int (pa_cons pe_int (pa_cons pe_int pa_nil)))) (blkOk_by (N := ["script", "parts", "at"]) (sc := defScope (top 81)) (by decide +kernel)) (fun _ _ _ _ _ => (pg_name (i := 2) nd rfl (Or.inl rfl))) (fun _ _ _ _ _ => pts_nil) (fun _ _ _ _ _ => (pe_cx (ok_right T D hm hcd TB) hr pass0 (by rfl) (pa_cons (pv 0) (pa_cons (pv 2) (pa_cons (pv 1) pa_nil)))))) pa_nil))))), ?_⟩ --END
  have L5 : 5 ≤ sizeLine := by show 5 ≤ sizeLine; decide
  refine ⟨_, rfl, L5, fun a1 h1 => ⟨L5, fun a2 h2 => ⟨L5, fun a3 h3 => ⟨L5, fun a4 h4 => ⟨L5, fun a5 h5 => ⟨L5, fun zl hz => ?_⟩⟩⟩⟩⟩⟩
  have u1 := same_upd (o := .tup [.int 2, .int 2, .int 1, .int 2, .int 3]) h1
  have u2 := same_upd (o := .tup [.int 2, .int 1, .int 2, .int 3, .int 3]) h2
  have u3 := same_upd (o := .tup [.int 3, .int 3, .int 2, .int 3, .int 3]) h3
  have u4 := same_upd (o := .tup [.int 3, .int 2, .int 1, .int 2, .int 2]) h4
  have u5 := same_upd (o := .tup [.int 2, .int 2, .int 2, .int 1, .int 1]) h5
  have u6 := same_upd (o := .lst [.ref a1, .ref a2, .ref a3, .ref a4, .ref a5]) hz
  have g5 := u6 _ _ (upd_sameN (o := .tup [.int 2, .int 2, .int 2, .int 1, .int 1]) h5)
  have g4 := u6 _ _ (u5 _ _ (upd_sameN (o := .tup [.int 3, .int 2, .int 1, .int 2, .int 2]) h4))
  have g3 := u6 _ _ (u5 _ _ (u4 _ _ (upd_sameN (o := .tup [.int 3, .int 3, .int 2, .int 3, .int 3]) h3)))
  have g2 := u6 _ _ (u5 _ _ (u4 _ _ (u3 _ _ (upd_sameN (o := .tup [.int 2, .int 1, .int 2, .int 3, .int 3]) h2))))
  have g1 := u6 _ _ (u5 _ _ (u4 _ _ (u3 _ _ (u2 _ _ (upd_sameN (o := .tup [.int 2, .int 2, .int 1, .int 2, .int 3]) h1)))))
  have gz := upd_sameN (o := .lst [.ref a1, .ref a2, .ref a3, .ref a4, .ref a5]) hz
  have s1 := u1.trans (u2.trans (u3.trans (u4.trans (u5.trans u6))))
  generalize upd (upd (upd (upd (upd (upd H a1 _) a2 _) a3 _) a4 _) a5 _) zl (.lst [.ref a1, .ref a2, .ref a3, .ref a4, .ref a5]) = H1 at g1 g2 g3 g4 g5 gz s1 ⊢
  have hsc : ScAt K H (.ref a) := ⟨a, ns, rfl, hsl⟩
  refine ⟨.ref a, 0, zl, _, rfl, hsc.same s1, by decide, SqL.of gz, (by show 0 < 5; decide), fun x hx => ?_, fun pl H2 s2 hpl => ?_⟩
  · simp only [List.mem_cons, List.not_mem_nil, or_false] at hx
    rcases hx with rfl | rfl | rfl | rfl | rfl
    · exact szv (b := 2) (st := 2) (c := 1) (mo := 2) (mn := 3) g1 (by decide) (by decide) (by decide) (by decide) (by decide)
    · exact szv (b := 2) (st := 1) (c := 2) (mo := 3) (mn := 3) g2 (by decide) (by decide) (by decide) (by decide) (by decide)
    · exact szv (b := 3) (st := 3) (c := 2) (mo := 3) (mn := 3) g3 (by decide) (by decide) (by decide) (by decide) (by decide)
    · exact szv (b := 3) (st := 2) (c := 1) (mo := 2) (mn := 2) g4 (by decide) (by decide) (by decide) (by decide) (by decide)
    · exact szv (b := 2) (st := 2) (c := 2) (mo := 1) (mn := 1) g5 (by decide) (by decide) (by decide) (by decide) (by decide)
  have s3 := s1.trans s2
  have hsc2 := hsc.same s3
  have htb2 := tabs_same htb s3
  refine ⟨500, 540, 2, 20, rfl, ⟨by decide, by decide, by decide +kernel, by decide +kernel⟩, fun DD hDD => lc_rangeC (lo := 500) (c := 2) (n := 20) (fun i H' => LamX.ExtN H2 H' ∧ LamX.Tabs [(Pt, laQ)] H' ∧ H' DD = some (.lst ((List.replicate i true).map V.bl)))
    ⟨ext_same (same_upd hDD), tabs_same htb2 (same_upd hDD), upd_same⟩ ?_ ?_⟩
  · rintro i H3 hi ⟨e3, t3, hd3⟩
    refine ⟨rfl, tYesIf ?_⟩
    refine ⟨_, rfl, _, rfl, _, rfl, .ref a, pl, 500 + i * 2, rfl, hsc2.ext e3, hpl.ext e3, by omega, t3, fun H4 e4 t4 => ?_⟩
    have hd4 := e4 _ _ hd3 (fun ps z => by cases z)
    refine ⟨_, hd4, by rw [List.length_map, List.length_replicate, sizeLine_eq]; omega, ?_, tabs_lst t4 hd4, by rw [upd_same, rep_bl i H]⟩
    intro b o hb hn
    rw [upd_ne (ne_of_none hb hDD)]
    exact (e3.trans e4) b o hb hn
  · rintro H3 ⟨e3, t3, hd3⟩
    refine ⟨DD, List.replicate 20 true, rfl, SqL.of hd3, ?_⟩
    have := k H3
    exact this
end
end Km
set_option Elab.async false
set_option linter.all false
set_option maxRecDepth 100000
set_option maxHeartbeats 4000000
/-! what the head's Bools say -/
namespace KmH
open PySem PySem.Spec PyProof.Rows PySem.HandSPX L2 Km He
theorem clsG_of {K : Frag} {h : Heap} {mg : Str → Option Value} {x : Str} (X : K.In h) (G : h.Ns mainGlobals mg) (g : (Fa.glo x).ok K = true) (c : (Fa.cls x).ok K = true) (b : clsGB K x = true) : ClsG K mg x := by
  obtain ⟨h1, b⟩ := ba b
  obtain ⟨h2, b⟩ := ba b
  obtain ⟨h3, b⟩ := ba b
  obtain ⟨h4, h5⟩ := ba b
  exact ⟨glo_ok X G g, cls_ok c, eqO_ok h1, eqO_ok h2, of_decide_eq_true h3, of_decide_eq_true h4, of_decide_eq_true h5⟩
theorem prp_of {K : Frag} {C : Addr} {f : Str} (b : prpB K C f = true) : PropOf K C f (ma K C f) (He5.wf K C "property" f) := by
  obtain ⟨h1, b⟩ := ba b
  obtain ⟨h2, b⟩ := ba b
  obtain ⟨h3, h4⟩ := ba b
  refine ⟨eqO_ok h1, eqO_ok h2, of_decide_eq_true h3, ?_⟩
  unfold He5.wf
  split at h4
  · rename_i g r e
    exact ⟨r, by rw [e]⟩
  · cases h4
theorem excC_of {K : Frag} {D : Addr} (x : XfC K D) (b : excCB K D = true) : ExcC K D := by
  obtain ⟨h1, b⟩ := ba b
  obtain ⟨h2, b⟩ := ba b
  obtain ⟨h3, h4⟩ := ba b
  exact ⟨x.ga, x.gg, x.exC, x.hdC, eqO_ok h1, eqO_ok h2, of_decide_eq_true h3, of_decide_eq_true h4⟩
theorem supCls_ok {K : Frag} {C : Addr} (h : supCls K C = true) : ∃ nm q N bs bm sn sub ab col dd k0 k1 k2 k3 k5, K.lookup C = some (excClassObj nm q C N bs bm true sn sub ab col dd k0 k1 k2 k3 k5 "ValueError.__new__") ∧ refsVE bm = true := by
  unfold supCls at h
  split at h
  · rename_i t dd cd sl ho
    split at h
    · rename_i C' bm k0 k1 k2 k3 n k5 hm hs
      obtain ⟨h1, h⟩ := ba h
      obtain ⟨h2, h⟩ := ba h
      obtain ⟨h3, h⟩ := ba h
      obtain ⟨h4, h⟩ := ba h
      obtain ⟨h5, h6⟩ := ba h
      have e1 := of_decide_eq_true h1
      have e2 := of_decide_eq_true h2
      have e3 := of_decide_eq_true h3
      subst e1 e2 e3
      obtain ⟨nm, bs, mro, ns, qn, hd, sn, sub, ab, col, del⟩ := cd
      dsimp only at hm h4 h5
      subst hm h5
      have e4 : del = false := by
        cases del with
        | false => rfl
        | true => cases h4
      subst e4
      have hsl : sl = #[k0, k1, k2, k3, some (.builtin "ValueError.__new__"), k5] := by
        obtain ⟨l⟩ := sl
        simp only at hs
        rw [hs]
      subst hsl
      exact ⟨nm, qn, ns, bs, bm, sn, sub, ab, col, dd, k0, k1, k2, k3, k5, ho, h6⟩
    · cases h
  · cases h
theorem supFn_ok {K : Frag} {C f : Addr} {file : Str} {d : SupD} (h : supFn K C f d.qual file = true) (e : fnC K f = d.val) :
    ∃ (oc kV doc pm : Value) (od an : Option Addr) (cda cc : Addr) (ct : Value) (osl : Array (Option Value)) (ccl : Value) (cdd : Option Addr) (vs : Array Value) (ccs : Array (Option Value)) (tf : Tok) (cl : Value) (cld : Option Addr) (csl : Array (Option Value)),
      K.lookup f = some ⟨oc, od, .func (PySem.W.ksFn "__init__" d.qual (defArgs d.st) (defBody d.st) (defScope d.st) .none kV doc pm an (.ref cda) ct cc), osl⟩ ∧ PySem.W.codeIn K (.ref cda) d.qual = true ∧
        K.lookup cda = some ⟨ccl, cdd, .fields vs, ccs⟩ ∧ vs[2]? = some (.str file tf) ∧ K.lookup cc = some ⟨cl, cld, .cell (some (.ref C)), csl⟩ := by
  unfold fnC at e
  unfold supFn at h
  cases q : K.lookup f with
  | none =>
    rw [q] at h
    cases h
  | some o =>
    obtain ⟨oc, od, dt, osl⟩ := o
    rw [q] at h e
    cases dt with
    | func fd =>
      obtain ⟨n1, n2, n3, n4, n5, n6, n7, n8, n9, n10, n11, n12, n13, n14, n15⟩ := fd
      have e2 : (some (n1, n2, n3, n4, n5, n6, cellsOf n7, n8, n15) : FnC) = (some ("__init__", d.qual, defArgs d.st, .stmts (defBody d.st), defScope d.st, mainGlobals, ["__class__"], .none, builtinsNs) : FnC) := e
      simp only [Option.some.injEq, Prod.mk.injEq] at e2
      obtain ⟨h1, h2, h3, h4, h5, h6, h7, h8, h9⟩ := e2
      subst h1 h2 h3 h4 h5 h6 h8 h9
      obtain ⟨c1, c⟩ := ba h
      obtain ⟨c2, c3⟩ := ba c
      dsimp only at c1 c2 c3
      cases n13 with
      | ref cda =>
        have c2' : (match K.lookup cda with
          | some ⟨_, _, .fields vs, _⟩ => (match (vs[2]? : Option Value) with
            | some (.str z _) => decide (z = file)
            | _ => false)
          | _ => false) = true := c2
        split at c2'
        · rename_i ccl cdd vs ccs hk
          split at c2'
          · rename_i z tf hz
            have ez := of_decide_eq_true c2'
            subst ez
            match n7, h7, c3 with
            | [(y, cc)], h7, c3 =>
              have ey : y = ("__class__" : Str) := by
                have := h7
                simp only [cellsOf, List.cons.injEq] at this
                exact this.1
              subst ey
              have c3' : (match K.lookup cc with
                | some ⟨_, _, .cell (some (.ref D)), _⟩ => decide (D = C)
                | _ => false) = true := c3
              split at c3'
              · rename_i cl cld D csl hc
                have eD := of_decide_eq_true c3'
                subst eD
                exact ⟨oc, n9, n10, n11, od, n12, cda, cc, n14, osl, ccl, cdd, vs, ccs, tf, cl, cld, csl, rfl, c1, hk, hz, hc⟩
              · cases c3'
          · cases c2'
        · cases c2'
      | _ => cases c2
    | _ => cases h
/-- what the text of such an __init__ is -/
def SupSt (fld : Str) (st : Stmt) : Prop := ∃ (p1 p2 a1 a2 a3 a4 a5 a6 b1 b2 b3 b4 : Pos), defArgs st = supA fld p1 p2 ∧ defBody st = Km.supB fld a1 a2 a3 a4 a5 a6 b1 b2 b3 b4 ∧ defScope st = supS fld ∧
      (∀ env : Env, ∃ pl : Sem Bool, eval (.Call (.Attribute (.Call (.Name "super" a1) [] [] a2) "__init__" a3) [.Name fld a4] [] a5) env = (do
        let ov ← attributeBase (.Call (.Name "super" a1) [] [] a2) "__init__" env (eval (.Call (.Name "super" a1) [] [] a2) env)
        standAt a3.atName
        let (f, first) ← holding [ov] (getMethod ov "__init__" pl)
        callWith a5 f first (backTo a5 (starEach [.Name fld a4] env)) [])) ∧
      (∀ env : Env, swapsWith (.Call (.Attribute (.Call (.Name "super" a1) [] [] a2) "__init__" a3) [.Name fld a4] [] a5) none a6.line env = pure false) ∧
      (∀ env : Env, swapsWith (.Name fld b3) (some (.Attribute (.Name "self" b1) fld b2)) b4.line env = pure false)
theorem supTxt_of {P : Program} {K : Frag} {mg : Str → Option Value} {h : Heap} {d : SupD} (X : K.In h) (G : h.Ns mainGlobals mg) (g : (Fa.glo d.name).ok K = true) (b : KmH.supB K d.name d.fld = true) (e : fnC K (d.fa K) = d.val)
    (f : supFn K (ga K d.name) (d.fa K) d.qual P.main.file = true) (T : SupSt d.fld d.st) (o : FldOk d.fld) (top : (P.main.scope.names.lookup ("super" : Str)).isSome = false) : ∃ q fI, SupTxt P K mg d.name d.fld q (ga K d.name) fI := by
  obtain ⟨h1, b⟩ := ba b
  obtain ⟨h2, b⟩ := ba b
  obtain ⟨h3, b⟩ := ba b
  obtain ⟨h4, b⟩ := ba b
  obtain ⟨h5, b⟩ := ba b
  obtain ⟨h6, b⟩ := ba b
  obtain ⟨h7, b⟩ := ba b
  obtain ⟨h8, b⟩ := ba b
  obtain ⟨h9, b⟩ := ba b
  obtain ⟨h10, b⟩ := ba b
  obtain ⟨h11, b⟩ := ba b
  obtain ⟨h12, h13⟩ := ba b
  obtain ⟨p1, p2, a1, a2, a3, a4, a5, a6, b1, b2, b3, b4, e1, e2, e3, t1, t2, t3⟩ := T
  obtain ⟨oc, kV, doc, pm, od, an, cda, cc, ct, osl, ccl, cdd, vs, ccs, tf, cl, cld, csl, k1, k2, k3, k4, k5⟩ := supFn_ok f e
  rw [e1, e2, e3] at k1
  obtain ⟨nm, q, N, bs, bm, sn, sub, ab, col, dd, k0, x1, x2, x3, x5, c1, c2⟩ := supCls_ok h1
  exact ⟨d.qual, d.fa K, { ok := o, gC := glo_ok X G g, cls := ⟨nm, q, N, bs, bm, sn, sub, ab, col, dd, k0, x1, x2, x3, x5, c1, c2⟩, sa := eqO_ok h2, noN := eqO_ok h3, iC := eqO_ok h4, tC := of_decide_eq_true h5, kC := h6, exC := of_decide_eq_true h7, veC := of_decide_eq_true h8, tyC := of_decide_eq_true h9, mrC := of_decide_eq_true h10, al := eqO_ok h11, opq := eqO_ok h12, sup := eqO_ok h13, top := top, fn := ⟨oc, kV, doc, pm, od, an, cda, cc, ct, osl, p1, p2, a1, a2, a3, a4, a5, a6, b1, b2, b3, b4, ccl, cdd, vs, ccs, tf, cl, cld, csl, k1, k2, k3, k4, k5, t1, t2, t3⟩ }⟩
theorem st_book : SupSt "part" (inClass (top 3) 0) := ⟨_, _, _, _, _, _, _, _, _, _, _, _, rfl, rfl, rfl, fun env => ⟨_, by rfl⟩, fun env => by rfl, fun env => by rfl⟩
theorem st_plan : SupSt "part" (inClass (top 4) 0) := ⟨_, _, _, _, _, _, _, _, _, _, _, _, rfl, rfl, rfl, fun env => ⟨_, by rfl⟩, fun env => by rfl, fun env => by rfl⟩
theorem st_text : SupSt "row" (inClass (top 12) 0) := ⟨_, _, _, _, _, _, _, _, _, _, _, _, rfl, rfl, rfl, fun env => ⟨_, by rfl⟩, fun env => by rfl, fun env => by rfl⟩
theorem entAll_ok {K : Frag} : ∀ {kvs : List (Dv × Dv)} {es : List DictEntry}, entAll K kvs es = true → es.length = kvs.length ∧ ∀ i (h : i < es.length) k v, (kvs.map fun p => (p.1.v K, p.2.v K))[i]? = some (k, v) → RelV k es[i].key ∧ RelV v es[i].val
  | [], [], _ => ⟨rfl, fun i h => absurd h (by simp)⟩
  | (k, v) :: r, e :: es, h => by
    obtain ⟨h1, h⟩ := ba (show (relB (k.v K) e.key && (relB (v.v K) e.val && entAll K r es)) = true from h)
    obtain ⟨h2, h3⟩ := ba h
    obtain ⟨h4, h5⟩ := entAll_ok h3
    refine ⟨by simp [h4], fun i hi a b q => ?_⟩
    cases i with
    | zero =>
      simp only [List.map_cons, List.getElem?_cons_zero, Option.some.injEq, Prod.mk.injEq] at q
      obtain ⟨rfl, rfl⟩ := q
      exact ⟨relB_ok h1, relB_ok h2⟩
    | succ i =>
      simp only [List.map_cons, List.getElem?_cons_succ] at q
      exact h5 i (by simpa using hi) a b q
  | [], _ :: _, h => by cases h
  | _ :: _, [], h => by cases h
theorem entB_ok {K : Frag} {x : Str} {kvs : List (Dv × Dv)} (h : entB K x kvs = true) : EntK K (ga K x) (kvs.map fun p => (p.1.v K, p.2.v K)) := by
  unfold entB at h
  cases q : K.lookup (ga K x) with
  | none =>
    rw [q] at h
    cases h
  | some o =>
    obtain ⟨oc, od, dt, osl⟩ := o
    rw [q] at h
    cases oc with
    | type c =>
      cases od with
      | none =>
        cases dt with
        | dict es n =>
          obtain ⟨z1, z⟩ := ba h
          obtain ⟨z2, z⟩ := ba z
          obtain ⟨z3, z4⟩ := ba z
          have e1 : c = "dict" := of_decide_eq_true z1
          have e2 : osl = #[] := Array.isEmpty_iff.mp z2
          have e3 : (ga K x == sysModules) = false := by
            cases y : ga K x == sysModules with
            | false => rfl
            | true =>
              rw [y] at z3
              cases z3
          subst e1 e2
          obtain ⟨l, r⟩ := entAll_ok z4
          exact ⟨es, n, q, e3, by simpa using l, fun i hi k v e => r i (by simpa using hi) k v e⟩
        | _ => cases h
      | some b => cases dt <;> cases h
    | _ => cases od <;> cases dt <;> cases h
end KmH
set_option Elab.async false
set_option linter.all false
set_option maxRecDepth 100000
set_option maxHeartbeats 4000000
/-! from the head's Hook to what the walks ask -/
namespace KmH
open PySem PySem.Spec PyProof.Rows PySem.HandSPX L2 Km He
section
variable {w : World} {h : Heap} {K : Frag} {mg : Str → Option Value}
theorem SaysH.f (c : SaysH w h K) (i : Nat) {f : Fa} (e : KmH.fa[i]? = some f) : f.ok K = true := List.all_eq_true.mp c.fa f (List.mem_of_getElem? e)
theorem SaysH.d (c : SaysH w h K) (i : Nat) {d : He5.DefA} (e : KmH.fn[i]? = some d) : ∃ fd, FunD K d.name d.qual d.params d.body d.scope (d.dvs K) (d.kws K) (d.at_ K) fd := by
  have c2 := c.fn
  have e2 : (KmH.fn.map fun d => He5.fnA K (d.at_ K))[i]? = (KmH.fn.map He5.DefA.val)[i]? := by rw [c2]
  rw [List.getElem?_map, List.getElem?_map, e] at e2
  exact He5.DefA.funD (Option.some.inj e2) (List.all_eq_true.mp c.fnk d (List.mem_of_getElem? e))
theorem SaysH.s (c : SaysH w h K) (i : Nat) {d : SupD} (e : sups[i]? = some d) : fnC K (d.fa K) = d.val := by
  have c2 := c.sup
  have e2 : (sups.map fun d => fnC K (d.fa K))[i]? = (sups.map SupD.val)[i]? := by rw [c2]
  rw [List.getElem?_map, List.getElem?_map, e] at e2
  exact Option.some.inj e2
theorem SaysH.tab (c : SaysH w h K) (i : Nat) {t : Tab} (e : tsH[i]? = some t) : ∃ es n, KDict K w (t.1 K) es n := by
  have c2 := c.ts
  have e2 : (tsH.map fun t => dicW K (t.1 K))[i]? = (tsH.map fun t => some (keysIn w.params t.2))[i]? := by rw [c2]
  rw [List.getElem?_map, List.getElem?_map, e] at e2
  exact dicW_ok (Option.some.inj e2)
structure ExH (K : Frag) : Prop where
  cls : own5.all (clsGB K) = true
  prp : (ps_.all fun p => prpB K (ga K p.1) p.2.1) = true
  sup : (sups.all fun d => KmH.supB K d.name d.fld && supFn K (ga K d.name) (d.fa K) d.qual file0) = true
  signs : valsB K (ga K "SIGNS") (signTab.map dvS) = true
  most : valsB K (ga K "MOST") (mostTab.map dvI) = true
  modes : tupB K "MODES" [.str "kept", .str "again", .str "check"] = true
  leaves : entB K "LEAVES" leavesL = true
  leads : entB K "LEADS" leadsL = true
  mids : entB K "MIDDLES" midsL = true
  nfB : PySem.W.notFirst K (ga K "Book") (.type "str") = true
  nfP : PySem.W.notFirst K (ga K "Plan") (.type "str") = true
  ksB : PySem.W.kitOne K (.type "str") (.ref (ga K "Book")) = some false
  ksP : PySem.W.kitOne K (.type "str") (.ref (ga K "Plan")) = some false
  xT : xfB K (ga K "BadText") = true
  xB : xfB K (ga K "BadBook") = true
  xP : xfB K (ga K "BadPlan") = true
  cT : excCB K (ga K "BadText") = true
  kT : PySem.W.kitOne K (.ref (ga K "BadText")) (.ref (ga K "BadText")) = some true
  nT : PySem.W.findIn K (.ref (ga K "BadText")) "row" = some none
  nB : PySem.W.findIn K (.ref (ga K "BadBook")) "part" = some none
  nP : PySem.W.findIn K (.ref (ga K "BadPlan")) "part" = some none
theorem exH_of (e : ex K = true) : ExH K := by
  obtain ⟨h1, e⟩ := ba e
  obtain ⟨h2, e⟩ := ba e
  obtain ⟨h3, e⟩ := ba e
  obtain ⟨h4, e⟩ := ba e
  obtain ⟨h5, e⟩ := ba e
  obtain ⟨h6, e⟩ := ba e
  obtain ⟨h7, e⟩ := ba e
  obtain ⟨h8, e⟩ := ba e
  obtain ⟨h9, e⟩ := ba e
  obtain ⟨h10, e⟩ := ba e
  obtain ⟨h11, e⟩ := ba e
  obtain ⟨h12, e⟩ := ba e
  obtain ⟨h13, e⟩ := ba e
  obtain ⟨h14, e⟩ := ba e
  obtain ⟨h15, e⟩ := ba e
  obtain ⟨h16, e⟩ := ba e
  obtain ⟨h17, e⟩ := ba e
  obtain ⟨h18, e⟩ := ba e
  obtain ⟨h19, e⟩ := ba e
  obtain ⟨h20, h21⟩ := ba e
  exact ⟨h1, h2, h3, h4, h5, h6, h7, h8, h9, h10, h11, of_decide_eq_true h12, of_decide_eq_true h13, h14, h15, h16, h17, of_decide_eq_true h18, eqO_ok h19, eqO_ok h20, eqO_ok h21⟩
variable (X : K.In h) (G : h.Ns mainGlobals mg) (c : SaysH w h K)
include X G c
theorem dg_of {x : Str} {n : Nat} (i j : Nat) (hi : KmH.fn[i]? = some (gD x n)) (hj : KmH.fa[j]? = some (.glo x)) : DefG K mg x (top n) := by
  obtain ⟨fd, F⟩ := c.d i hi
  exact ⟨_, fd, F, glo_ok X G (c.f j hj)⟩
omit X G in
theorem mt_of {C m q : Str} {n k : Nat} (i j : Nat) (hi : KmH.fn[i]? = some (mD C m q n k)) (hj : KmH.fa[j]? = some (.meth C m)) : MetG K (ga K C) m q (inClass (top n) k) := by
  obtain ⟨fd, F⟩ := c.d i hi
  exact ⟨_, fd, F, meth_ok (c.f j hj)⟩
theorem in_of {C q : Str} {n : Nat} (i j k : Nat) (hi : KmH.fn[i]? = some (mD C "__init__" q n 0)) (hj : KmH.fa[j]? = some (.mkr C)) (hk : KmH.fa[k]? = some (.glo C)) : IniG K mg C q (ga K C) (inClass (top n) 0) := by
  obtain ⟨fd, F⟩ := c.d i hi
  exact ⟨_, fd, F, glo_ok X G (c.f k hk), mkr_ok (c.f j hj)⟩
omit X G in
theorem pr_of {C m q : Str} {n k : Nat} (i j : Nat) (hi : KmH.fn[i]? = some (pD C m q n k)) (hj : ps_[j]? = some (C, m, q, n, k)) : PrpG K (ga K C) m q (inClass (top n) k) := by
  obtain ⟨fd, F⟩ := c.d i hi
  exact ⟨_, _, fd, F, prp_of (List.all_eq_true.mp (exH_of c.ex).prp _ (List.mem_of_getElem? hj))⟩
theorem cg_of {C : Str} (i j k : Nat) (hi : KmH.fa[i]? = some (.glo C)) (hj : KmH.fa[j]? = some (.cls C)) (hk : own5[k]? = some C) : ClsG K mg C :=
  clsG_of X G (c.f i hi) (c.f j hj) (List.all_eq_true.mp (exH_of c.ex).cls _ (List.mem_of_getElem? hk))
theorem sp_of {d : SupD} (i j : Nat) (hi : sups[i]? = some d) (hj : KmH.fa[j]? = some (.glo d.name)) (T : SupSt d.fld d.st) (o : FldOk d.fld) : ∃ q fI, SupTxt rw0.prog K mg d.name d.fld q (ga K d.name) fI := by
  obtain ⟨h1, h2⟩ := ba (List.all_eq_true.mp (exH_of c.ex).sup _ (List.mem_of_getElem? hi))
  exact supTxt_of X G (c.f j hj) h1 (c.s i hi) h2 T o (by kernel_rfl)
theorem bt_of : Bt mg where
  isinstance_ := free_ok X G (c.f 55 rfl)
  int_ := free_ok X G (c.f 56 rfl)
  bool_ := free_ok X G (c.f 57 rfl)
  str_ := free_ok X G (c.f 58 rfl)
  tuple_ := free_ok X G (c.f 59 rfl)
  list_ := free_ok X G (c.f 60 rfl)
  len_ := free_ok X G (c.f 61 rfl)
  range_ := free_ok X G (c.f 62 rfl)
  zip_ := free_ok X G (c.f 63 rfl)
  enumerate_ := free_ok X G (c.f 64 rfl)
  sorted_ := free_ok X G (c.f 65 rfl)
  set_ := free_ok X G (c.f 66 rfl)
  all_ := free_ok X G (c.f 67 rfl)
  super_ := free_ok X G (c.f 68 rfl)
theorem fm_of : Fm K mg w where
  B := bt_of X G c
  signs := glo_ok X G (c.f 5 rfl)
  signsD := c.tab 0 rfl
  signsV := fun p hp => valsB_ok (exH_of c.ex).signs (List.mem_map_of_mem (f := dvS) hp)
  most := glo_ok X G (c.f 6 rfl)
  mostD := c.tab 1 rfl
  mostV := fun p hp => valsB_ok (exH_of c.ex).most (List.mem_map_of_mem (f := dvI) hp)
  mf := int_ok X G (c.f 88 rfl)
  F := cg_of X G c 0 70 0 rfl rfl rfl
  nT := noat_ok (c.f 80 rfl)
  dBetween := dg_of X G c 0 16 rfl rfl
  dCount := dg_of X G c 1 17 rfl rfl
  dTrees := dg_of X G c 2 18 rfl rfl
  iForm := in_of X G c 56 75 0 rfl rfl rfl
  mNums := mt_of c 39 96 rfl rfl
  pCalls := pr_of c 60 0 rfl rfl
  pCols := pr_of c 61 1 rfl rfl
  pReads := pr_of c 62 2 rfl rfl
  mHas := mt_of c 40 97 rfl rfl
theorem bk_of : Bk rw0.prog K mg w where
  f := fm_of X G c
  mf := int_ok X G (c.f 89 rfl)
  mb := int_ok X G (c.f 90 rfl)
  dNums := dg_of X G c 3 19 rfl rfl
  dBody := dg_of X G c 4 20 rfl rfl
  dFuns := dg_of X G c 5 21 rfl rfl
  B := cg_of X G c 1 71 1 rfl rfl rfl
  nP := noat_ok (c.f 81 rfl)
  iBook := in_of X G c 57 76 1 rfl rfl rfl
  pBase := pr_of c 63 3 rfl rfl
  pSettings := pr_of c 64 4 rfl rfl
  pFunctions := pr_of c 65 5 rfl rfl
  mLen := mt_of c 41 98 rfl rfl
  mEq := mt_of c 42 99 rfl rfl
  nf := (exH_of c.ex).nfB
  ks := (exH_of c.ex).ksB
  eB := sp_of X G c 0 12 rfl rfl st_book fld_part
theorem pl_of : Pl rw0.prog K mg w where
  b := bk_of X G c
  mt := int_ok X G (c.f 91 rfl)
  modes := glo_ok X G (c.f 10 rfl)
  modesT := fun H => tupB_ok (exH_of c.ex).modes H
  dForm := dg_of X G c 6 22 rfl rfl
  dThings := dg_of X G c 7 23 rfl rfl
  dRis := dg_of X G c 8 24 rfl rfl
  C := cg_of X G c 2 72 2 rfl rfl rfl
  nP := noat_ok (c.f 82 rfl)
  iPlan := by
    obtain ⟨fd, F⟩ := c.d (d := planD) 66 rfl
    exact ⟨_, fd, F, glo_ok X G (c.f 2 rfl), mkr_ok (c.f 77 rfl)⟩
  mEq := mt_of c 43 100 rfl rfl
  nf := (exH_of c.ex).nfP
  ks := (exH_of c.ex).ksP
  eP := sp_of X G c 1 13 rfl rfl st_plan fld_part
theorem rd_of : Rd rw0.prog K mg w where
  f := fm_of X G c
  C := cg_of X G c 3 73 3 rfl rfl rfl
  nT := noat_ok (c.f 83 rfl)
  nS := noat_ok (c.f 84 rfl)
  iR := in_of X G c 58 78 3 rfl rfl rfl
  mPeek := mt_of c 44 101 rfl rfl
  mStep := mt_of c 45 102 rfl rfl
  mExpect := mt_of c 46 103 rfl rfl
  mDigit := mt_of c 47 104 rfl rfl
  mWhole := mt_of c 48 105 rfl rfl
  mLed := mt_of c 49 106 rfl rfl
  mBracket := mt_of c 50 107 rfl rfl
  leaves := glo_ok X G (c.f 7 rfl)
  leavesE := entB_ok (exH_of c.ex).leaves
  leads := glo_ok X G (c.f 8 rfl)
  leadsE := entB_ok (exH_of c.ex).leads
  mids := glo_ok X G (c.f 9 rfl)
  midsE := entB_ok (exH_of c.ex).mids
  eT := sp_of X G c 2 11 rfl rfl st_text fld_row
theorem tx_of : Tx rw0.prog K mg w where
  p := pl_of X G c
  r := rd_of X G c
  bf := ⟨_, glo_ok X G (c.f 14 rfl)⟩
  dReadForm := dg_of X G c 9 25 rfl rfl
  dLinesOf := dg_of X G c 10 26 rfl rfl
  dDigits := dg_of X G c 11 27 rfl rfl
  L := cg_of X G c 4 74 4 rfl rfl rfl
  nL := noat_ok (c.f 85 rfl)
  nW := noat_ok (c.f 86 rfl)
  nA := noat_ok (c.f 87 rfl)
  iL := in_of X G c 59 79 4 rfl rfl rfl
  mWords := mt_of c 51 108 rfl rfl
  mFail := mt_of c 52 109 rfl rfl
  mTake := mt_of c 53 110 rfl rfl
  mForm := mt_of c 54 111 rfl rfl
  mEnd := mt_of c 55 112 rfl rfl
  dTryBook := dg_of X G c 12 28 rfl rfl
  dBookLines := dg_of X G c 13 29 rfl rfl
  dReadBook := dg_of X G c 14 30 rfl rfl
  dTryPlan := dg_of X G c 15 31 rfl rfl
  dThingLines := dg_of X G c 16 32 rfl rfl
  dReadPlan := dg_of X G c 17 33 rfl rfl
  gT := glo_ok X G (c.f 11 rfl)
  eT := exm_ok (c.f 92 rfl)
  gB := glo_ok X G (c.f 12 rfl)
  eB := exm_ok (c.f 93 rfl)
  xB := xfB_ok (exH_of c.ex).xB
  nB := (exH_of c.ex).nB
  gP := glo_ok X G (c.f 13 rfl)
  eP := exm_ok (c.f 94 rfl)
  xP := xfB_ok (exH_of c.ex).xP
  nP := (exH_of c.ex).nP
theorem lw_of : Lw rw0.prog K mg w where
  t := tx_of X G c
  sum_ := free_ok X G (c.f 69 rfl)
  dNumber := dg_of X G c 18 34 rfl rfl
  dTree := dg_of X G c 19 35 rfl rfl
  dFunctions := dg_of X G c 20 36 rfl rfl
  dSome := dg_of X G c 21 37 rfl rfl
  dPlan := dg_of X G c 22 38 rfl rfl
  dText := dg_of X G c 23 39 rfl rfl
  dLine := dg_of X G c 24 40 rfl rfl
  dBookText := dg_of X G c 25 41 rfl rfl
  dPlanText := dg_of X G c 26 42 rfl rfl
  dRead := dg_of X G c 27 43 rfl rfl
  dLeaves := dg_of X G c 28 44 rfl rfl
  dTreeOf := dg_of X G c 29 45 rfl rfl
  dIsGood := dg_of X G c 30 46 rfl rfl
  dLDigits := dg_of X G c 31 47 rfl rfl
  dBookBad := dg_of X G c 32 48 rfl rfl
  dPlanBad := dg_of X G c 33 49 rfl rfl
  dSpoilt := dg_of X G c 34 50 rfl rfl
  dTold := dg_of X G c 35 51 rfl rfl
  dLLines := dg_of X G c 36 52 rfl rfl
  dRight := dg_of X G c 37 53 rfl rfl
  dLaw := dg_of X G c 38 54 rfl rfl
theorem lt_of : Lt rw0.prog K mg w where
  l := lw_of X G c
  gM := glo_ok X G (c.f 15 rfl)
  eM := exm_ok (c.f 95 rfl)
  cT := excC_of (xfB_ok (exH_of c.ex).xT) (exH_of c.ex).cT
  kT := (exH_of c.ex).kT
  xT := xfB_ok (exH_of c.ex).xT
  nT := (exH_of c.ex).nT
theorem law_at {fa0 : Addr} (hmg : mg ("law" : Str) = some (.ref fa0)) : LamX.LawAtS rw0 w K CX0 69 63 "script" mg fa0 h := by
  obtain ⟨fd, F⟩ := c.d (d := gD "_law_right" 80) 37 rfl
  obtain ⟨fdl, DL⟩ := c.d (d := gD "law" 81) 38 rfl
  have el : fa0 = fAd K ("law", none) := by
    have e := hmg.symm.trans (glo_ok X G (c.f (f := .glo "law") 54 rfl))
    cases e
    rfl
  subst el
  have hcd : fd.code = .ref (codeOf K ("_law_right", none)) := by
    obtain ⟨oc, od, dV, kV, doc, pm, an, cdv, ct, osl, rfl, lk, hc, _⟩ := F.ex
    obtain ⟨c0, rfl⟩ := codeIn_ref hc
    rw [codeOf_eq (K := K) (p := ("_law_right", none)) lk rfl]
  refine ⟨fdl, [cT K ("_law_right", none)], spLaw K (cT K ("_law_right", none)).2, ?_, ?_, ?_, ?_, ?_, ?_⟩
  · intro p hp
    rw [List.mem_singleton.mp hp]
    exact c.empty
  · intro p hp
    rw [List.mem_singleton.mp hp]
    exact c.out
  · intro p hp
    rw [List.mem_singleton.mp hp]
    exact PySem.W.codeHd_of_K X c.hd
  · exact fun s v => FunD.bindsA (ps := ["script"]) DL (fun _ _ _ _ _ _ us hl => match us, hl with | [_], _ => rfl) s [v] rfl
  · intro H a ns _ _ hT hS
    refine ⟨a, ns, rfl, hS, fun p hp => ?_, fun _ => rfl⟩
    rw [List.mem_singleton.mp hp]
    exact LamX.TabS.nil (hT _ List.mem_cons_self)
  · intro base X2 G2 hTB
    exact ok_law (lt_of X G c) F (glo_ok X G (c.f (f := .glo "_law_right") 53 rfl)) hcd (hTB _ List.mem_cons_self) DL
end
end KmH
set_option Elab.async false
set_option linter.all false
set_option maxRecDepth 100000
set_option maxHeartbeats 0
/-! the end -/
namespace KmH
open PySem PySem.Spec PyProof.Rows
theorem run (w : World) : HandSHeadRun.RunEq RH (PySem.W.view RH.prog [81]) hkH obH 12000 loose w :=
  PySem.W.byRow2 "special-get-raises" (P := fun w => HandSHeadRun.RunEq RH (PySem.W.view RH.prog [81]) hkH obH 12000 loose w) run_f run_t w
end KmH
open PySem PySem.W PySem.Calls PyProof.Rows
theorem PySem.Challenge.cw_keptmeanings_k41_whole_spoilt_plans_holds : PySem.Challenge.rw_keptmeanings_k41_whole_spoilt_plans.Holds := by
  w_on; o_law
  refine HandSHeadRun.head_any (r := OpenLaw.row PySem.Challenge.rw_keptmeanings_k41_whole_spoilt_plans) (q := view (OpenLaw.row PySem.Challenge.rw_keptmeanings_k41_whole_spoilt_plans).prog [81]) (H := KmH.hkH) (ob := KmH.obH) (M := 12000) (loose := KmH.loose) (d := HandSHeadRun.topDef (OpenLaw.row PySem.Challenge.rw_keptmeanings_k41_whole_spoilt_plans).prog 81) (kwd := []) KmH.obH_eq
    (by kernel_rfl) (fun s => by kernel_rfl) KmH.run (by kernel_rfl) (by kernel_rfl) (by kernel_rfl) (by rfl) (by first | assumption | decide +kernel) (by decide +kernel) ⟨rfl, rfl, rfl, rfl, rfl, by decide +kernel⟩ ?hw ?hc
  case hw => w_witness2
  case hc =>
    refine LamX.walk_ofTsE (l := PySem.Challenge.rw_keptmeanings_k41_whole_spoilt_plans) (n := 63) (k := 69) (x := "script") (CX := fun _ => L2.CX0) rfl (by decide) (by kernel_rfl) ⟨rfl, by decide, by decide⟩ ?F (fun _ _ _ _ _ z => z)
    intro w mg fa h Y G hmg0
    obtain ⟨K, KX, c⟩ := Y
    have hmg : mg ("law" : PySem.Str) = some (.ref fa) := by
      have e : (HandSHeadRun.topDef (OpenLaw.row PySem.Challenge.rw_keptmeanings_k41_whole_spoilt_plans).prog 81).name = ("law" : PySem.Str) := by kernel_rfl
      rw [← e]
      exact hmg0
    exact ⟨K, KX, KmH.law_at KX G c hmg⟩

import PyProof.Rows.All
import Wide.All
import OpenK.AllK
import Wide.FinOn
import HandS.ForMost
import HandS.Deep
import HandS.Exc
import HandS.Ends
import HandS.Head0
import HandS.Head1
import HandS.Head2
import HandS.HeadEnd
import HandS.HeadHook1
import HandS.HeadHook2
import HandS.IsInst
import KE.KStateDown
import HandS.Head3
import HandS.Wide
import HandS.Gcd
import HandS.TupAny
import HandS.TupMul
import HandS.Style
import PyProof.P3Eq
import PyProof.NeData
import HandS.Lambda
import HandS.MakeKw
import HandS.WordsDict
import HandS.NoneIn
import PySem.Challenge.RW_bagtrees_k90_classes_made_by_hand
section
set_option Elab.async false
set_option linter.all false
set_option maxRecDepth 100000
set_option autoImplicit false
/-! SemH0: what the head's run looks at. -/
namespace M
open PySem PySem.Spec PyProof.Rows L2
open PySem.W (Frag OpenRow)
abbrev sS (s : String) : Str := Str.ofString s
/-- K's words of such a class -/
def cmpK (K : Frag) (C : Addr) : Bool := match K.lookup C with
  | some ⟨cv, _, .cls cd, sl⟩ => decide (cv = .type "type") && decide (cd.mro = [.ref C, .type "object"]) && cd.hasDict && !cd.abstract && !cd.hasDel &&
      (match sl.toList with
        | [_, _, _, _, some (.builtin n), _] => decide (n = "object.__new__")
        | _ => false) &&
      (match K.lookup cd.ns with
        | some ⟨_, _, .dict es _, _⟩ => es.toList.all fun e => match e.key with
          | .str n _ => !decide (n = ("__eq__" : Str)) && !decide (n = ("__ne__" : Str))
          | _ => false
        | _ => false)
  | _ => false
def bases : List String := ["NoneType", "bool", "int", "str", "tuple", "list", "dict"]
/-- what K must say of an own class: as an instance's, as what is asked for -/
def kitI (K : PySem.W.Frag) (D : Addr) : Bool :=
  PySem.W.plainGet K D Str.empty && PySem.W.hasDictIn K D && PySem.W.plainOver K D && decide (PySem.W.findIn K (.ref D) "__setattr__" = some (some (.builtin "object.__setattr__"))) &&
  decide (PySem.W.findIn K (.ref D) "__class__" = some (some (.builtin "object.__class__"))) && decide (PySem.W.mroIn K D (.type "object") = some true)
def kitE (K : PySem.W.Frag) (D : Addr) : Bool := bases.all fun n => decide (PySem.W.kitOne K (.type n) (.ref D) = some false) && decide (PySem.W.kitOne K (.ref D) (.type n) = some false)
/-- K knows the dict of the modules -/
def symK (K : PySem.W.Frag) : Bool := match K.lookup sysModules with
  | some o => decide (o.cls = .type "dict")
  | none => false
/-- what the module's names reach: the globals' objects, the classes' dicts, their members, the functions' code -/
def reachM (g : Addr → Option Obj) : List Addr :=
  let G1 := match g mainGlobals with
    | some o => He.refsO o
    | none => []
  let NS := G1.filterMap fun a => match g a with
    | some ⟨_, _, .cls cd, _⟩ => some cd.ns
    | _ => none
  let MT := NS.flatMap fun a => match g a with
    | some o => He.refsO o
    | none => []
  let CD := (G1 ++ MT).filterMap fun a => match g a with
    | some ⟨_, _, .func fd, _⟩ => (match fd.code with
      | .ref c => some c
      | _ => none)
    | _ => none
  mainGlobals :: sysModules :: (G1 ++ (NS ++ (MT ++ CD)))
def frM (g : Addr → Option Obj) : PySem.W.Frag := He.frG g (reachM g)
abbrev AlM : Type := Bool × List He.FnV
def obsM (ck : PySem.W.Frag → Bool) (fn : List He.FnD) (K : PySem.W.Frag) : AlM := (ck K && fn.all fun d => (He.Fa.code d.at_ d.qual).ok K, fn.map fun d => He.fnObs K d.at_)
def valM (fn : List He.FnD) : AlM := (true, fn.map He.FnD.val)
open PySem.W PySem.Calls in
/-- one part: what is asked of the heap behind the top -/
def PartEq (r : OpenRow) (M : Nat) (w : World) (c : PySem.W.Frag → Bool) : Prop := ∀ os : OsState, (HandSHeadRun.endF (HandSHeadRun.stepQ (HandSHeadRun.denQ HandSHeadRun.tabQ) r.prog w) M r.prog w os).map (fun s => c (frM (HandSHeadRun.getT s))) = some true
/-- what a law's module holds: defs, built-in names that are free, classes with their fields, classes without __init__ -/
structure Tabs where
  defs : List String
  free : List String
  cl : List (String × List String) := []
  bare : List String := []
  kb : List String := []
def Tabs.names (t : Tabs) : List String := t.cl.map (·.1) ++ t.bare
def Tabs.at_ (t : Tabs) : List (String × List String) := t.cl ++ t.bare.map fun x => (x, [])
def gaS (K : PySem.W.Frag) (x : String) : Addr := He.ga K (sS x)
def clB (K : PySem.W.Frag) (p : String × List String) : Bool := (He.Fa.glo (sS p.1)).ok K && (He.Fa.keep (sS p.1)).ok K && kitI K (gaS K p.1) && cmpK K (gaS K p.1) && p.2.all fun f => (He.Fa.noat (sS p.1) (sS f)).ok K
def tabOk (t : Tabs) (K : PySem.W.Frag) : Bool := symK K && (t.defs.all fun x => (He.Fa.glo (sS x)).ok K && (He.Fa.keep (sS x)).ok K) && (t.free.all fun x => (He.Fa.free (sS x)).ok K) && (t.at_.all fun p => clB K p) &&
  (t.cl.all fun p => (He.Fa.mkr (sS p.1)).ok K) && (t.bare.all fun x => PySem.W.makesIn K (gaS K x) && He.eqO (PySem.W.findIn K (.ref (gaS K x)) "__init__") (some (some (.builtin "object.__init__")))) && (t.kb.all fun x => decide (x ∈ t.names) && kitE K (gaS K x))
/-- a def's function object -/
def fdN (s : Stmt) (at_ : Str × Option Str) (name qual : Str) : He.FnD := ⟨at_, name, qual, defArgs s, defBody s, defScope s⟩
end M
end
section
set_option Elab.async false
set_option linter.all false
set_option maxRecDepth 100000
set_option maxHeartbeats 0
set_option autoImplicit false
namespace M.K90
open PySem PySem.Spec PyProof.Rows L2
abbrev prog : Program := PySem.Challenge.pw_bagtrees_k90_classes_made_by_hand
def top (i : Nat) : Stmt := prog.main.body.getD i (.Pass ⟨0, 0, 0, 0⟩)
def meth (s : Stmt) (j : Nat) : Stmt := match s with
  | .ClassDef _ _ _ b _ _ _ _ _ _ _ => b.getD j (.Pass ⟨0, 0, 0, 0⟩)
  | _ => .Pass ⟨0, 0, 0, 0⟩
def s_copied : Stmt := top 1
def s__law_pen : Stmt := top 91
def s__law_draw : Stmt := top 92
def s__law_pick : Stmt := top 93
def s__law_made_a : Stmt := top 94
def s__law_made_b : Stmt := top 95
def s__law_made_c : Stmt := top 96
def s__law_made_d : Stmt := top 97
def s__law_made_e : Stmt := top 98
def s__law_bare : Stmt := top 99
def s__law_value : Stmt := top 100
def s__law_copy : Stmt := top 101
def s_law : Stmt := top 102
def s_Flat : Stmt := meth (top 4) 0
def s_Below : Stmt := meth (top 5) 0
def s_Taken : Stmt := meth (top 7) 0
def s_Ringed : Stmt := meth (top 8) 0
def s_BagSum : Stmt := meth (top 10) 0
def s_LowAt : Stmt := meth (top 11) 0
def s_SumBar : Stmt := meth (top 12) 0
def s_Squares : Stmt := meth (top 13) 0
def s_SumLost : Stmt := meth (top 15) 0
def s_Disagree : Stmt := meth (top 18) 0
def s_Whole : Stmt := meth (top 19) 0
def s_CountBar : Stmt := meth (top 20) 0
def s_CountsLost : Stmt := meth (top 22) 0
def s_FillLost : Stmt := meth (top 25) 0
def s_PartingLoose : Stmt := meth (top 28) 0
def s_Factors : Stmt := meth (top 30) 0
def s_NotAbove : Stmt := meth (top 31) 0
def s_SolvedEver : Stmt := meth (top 32) 0
def s_NewEver : Stmt := meth (top 33) 0
def s_LeastNew : Stmt := meth (top 34) 0
def s_BagTree : Stmt := meth (top 36) 0
def s_RingTables : Stmt := meth (top 38) 0
def s_NewNumber : Stmt := meth (top 39) 0
def s_RingCounts : Stmt := meth (top 40) 0
def s_PartBreak : Stmt := meth (top 41) 0
def s_Way : Stmt := meth (top 44) 0
def s_Unheld : Stmt := meth (top 46) 0
def s_Breaks : Stmt := meth (top 48) 0
def s_FreeLot : Stmt := meth (top 50) 0
def s_TiedCover : Stmt := meth (top 51) 0
def s_CornerLow : Stmt := meth (top 54) 0
def s_Strong : Stmt := meth (top 56) 0
def s_Sun : Stmt := meth (top 57) 0
def s_Unbalanced : Stmt := meth (top 59) 0
def s_Cover : Stmt := meth (top 61) 0
def s_CoverGap : Stmt := meth (top 62) 0
def s_BagFactors : Stmt := meth (top 64) 0
def s_NoFactors : Stmt := meth (top 65) 0
def s_UnlikeTwo : Stmt := meth (top 68) 0
def s_Hanging : Stmt := meth (top 70) 0
def s_Folds : Stmt := meth (top 72) 0
def s_Knot : Stmt := meth (top 73) 0
def s_Signed : Stmt := meth (top 75) 0
def s_Hued : Stmt := meth (top 77) 0
def s_BagRow : Stmt := meth (top 79) 0
def s_FarThree : Stmt := meth (top 80) 0
def s_Stretches : Stmt := meth (top 81) 0
def s_OddHole : Stmt := meth (top 84) 0
def s_OddAntihole : Stmt := meth (top 85) 0
def s_NarrowTree : Stmt := meth (top 87) 0
def s_Crowds : Stmt := meth (top 88) 0
def s_PathBags : Stmt := meth (top 89) 0
def tb : Tabs := { defs := ["copied", "_law_pen", "_law_draw", "_law_pick", "_law_made_a", "_law_made_b", "_law_made_c", "_law_made_d", "_law_made_e", "_law_bare", "_law_value", "_law_copy", "law"], free := ["isinstance", "list", "tuple", "int", "len", "range", "repr"], cl := [("Flat", ["row"]), ("Below", ["row"]), ("Taken", ["row"]), ("Ringed", ["row"]), ("BagSum", ["tables"]), ("LowAt", ["row"]), ("SumBar", ["other"]), ("Squares", ["rows"]), ("SumLost", ["table", "other"]), ("Disagree", ["first", "second", "filling"]), ("Whole", ["row"]), ("CountBar", ["weights"]), ("CountsLost", ["letters", "counts", "weights"]), ("FillLost", ["told", "bar"]), ("PartingLoose", ["i", "j", "lot"]), ("Factors", ["lower", "turns"]), ("NotAbove", ["row"]), ("SolvedEver", ["row"]), ("NewEver", ["table"]), ("LeastNew", ["row"]), ("BagTree", ["bags", "links"]), ("RingTables", ["told", "bars", "steps"]), ("NewNumber", ["i", "j", "number"]), ("RingCounts", ["letters", "counts", "weights"]), ("PartBreak", ["lot", "i", "j"]), ("Way", ["row"]), ("Unheld", ["filling"]), ("Breaks", ["one", "other", "given", "filling"]), ("FreeLot", ["lot", "covers"]), ("TiedCover", ["lots", "lot"]), ("CornerLow", ["lot", "row"]), ("Strong", ["row"]), ("Sun", ["inner", "outer"]), ("Unbalanced", ["rows", "columns"]), ("Cover", ["lot", "amounts"]), ("CoverGap", ["shares", "amounts"]), ("BagFactors", ["tables"]), ("NoFactors", ["i", "j", "filling"]), ("UnlikeTwo", ["one", "other", "row"]), ("Hanging", ["one", "row"]), ("Folds", ["steps"]), ("Knot", ["kind", "row"]), ("Signed", ["rows"]), ("Hued", ["row", "lot"]), ("BagRow", ["bags"]), ("FarThree", ["places", "ways"]), ("Stretches", ["rows"]), ("OddHole", ["row"]), ("OddAntihole", ["row"]), ("NarrowTree", ["bags", "links"]), ("Crowds", ["lots"]), ("PathBags", ["bags"])], bare := ["Above", "SumsEver", "Agree", "CountsEver", "FillsEver", "PartingsTied", "Parted", "Held", "KeepsWeb", "AllAbove", "Balanced", "AgreeTwo", "AgreeAll", "Perfect"] }
def fnl1 : List He.FnD := [
  fdN s_copied ("copied", none) "copied" "copied",
  fdN s__law_pen ("_law_pen", none) "_law_pen" "_law_pen",
  fdN s__law_draw ("_law_draw", none) "_law_draw" "_law_draw",
  fdN s__law_pick ("_law_pick", none) "_law_pick" "_law_pick",
  fdN s__law_made_a ("_law_made_a", none) "_law_made_a" "_law_made_a",
  fdN s__law_made_b ("_law_made_b", none) "_law_made_b" "_law_made_b",
  fdN s__law_made_c ("_law_made_c", none) "_law_made_c" "_law_made_c",
  fdN s__law_made_d ("_law_made_d", none) "_law_made_d" "_law_made_d",
  fdN s__law_made_e ("_law_made_e", none) "_law_made_e" "_law_made_e",
  fdN s__law_bare ("_law_bare", none) "_law_bare" "_law_bare",
  fdN s__law_value ("_law_value", none) "_law_value" "_law_value",
  fdN s__law_copy ("_law_copy", none) "_law_copy" "_law_copy",
  fdN s_law ("law", none) "law" "law",
  fdN s_Flat ("Flat", some "__init__") "__init__" "Flat.__init__",
  fdN s_Below ("Below", some "__init__") "__init__" "Below.__init__",
  fdN s_Taken ("Taken", some "__init__") "__init__" "Taken.__init__",
  fdN s_Ringed ("Ringed", some "__init__") "__init__" "Ringed.__init__",
  fdN s_BagSum ("BagSum", some "__init__") "__init__" "BagSum.__init__",
  fdN s_LowAt ("LowAt", some "__init__") "__init__" "LowAt.__init__",
  fdN s_SumBar ("SumBar", some "__init__") "__init__" "SumBar.__init__",
  fdN s_Squares ("Squares", some "__init__") "__init__" "Squares.__init__",
  fdN s_SumLost ("SumLost", some "__init__") "__init__" "SumLost.__init__",
  fdN s_Disagree ("Disagree", some "__init__") "__init__" "Disagree.__init__",
  fdN s_Whole ("Whole", some "__init__") "__init__" "Whole.__init__",
  fdN s_CountBar ("CountBar", some "__init__") "__init__" "CountBar.__init__",
  fdN s_CountsLost ("CountsLost", some "__init__") "__init__" "CountsLost.__init__",
  fdN s_FillLost ("FillLost", some "__init__") "__init__" "FillLost.__init__",
  fdN s_PartingLoose ("PartingLoose", some "__init__") "__init__" "PartingLoose.__init__",
  fdN s_Factors ("Factors", some "__init__") "__init__" "Factors.__init__",
  fdN s_NotAbove ("NotAbove", some "__init__") "__init__" "NotAbove.__init__",
  fdN s_SolvedEver ("SolvedEver", some "__init__") "__init__" "SolvedEver.__init__",
  fdN s_NewEver ("NewEver", some "__init__") "__init__" "NewEver.__init__"]
def fnl2 : List He.FnD := [
  fdN s_LeastNew ("LeastNew", some "__init__") "__init__" "LeastNew.__init__",
  fdN s_BagTree ("BagTree", some "__init__") "__init__" "BagTree.__init__",
  fdN s_RingTables ("RingTables", some "__init__") "__init__" "RingTables.__init__",
  fdN s_NewNumber ("NewNumber", some "__init__") "__init__" "NewNumber.__init__",
  fdN s_RingCounts ("RingCounts", some "__init__") "__init__" "RingCounts.__init__",
  fdN s_PartBreak ("PartBreak", some "__init__") "__init__" "PartBreak.__init__",
  fdN s_Way ("Way", some "__init__") "__init__" "Way.__init__",
  fdN s_Unheld ("Unheld", some "__init__") "__init__" "Unheld.__init__",
  fdN s_Breaks ("Breaks", some "__init__") "__init__" "Breaks.__init__",
  fdN s_FreeLot ("FreeLot", some "__init__") "__init__" "FreeLot.__init__",
  fdN s_TiedCover ("TiedCover", some "__init__") "__init__" "TiedCover.__init__",
  fdN s_CornerLow ("CornerLow", some "__init__") "__init__" "CornerLow.__init__",
  fdN s_Strong ("Strong", some "__init__") "__init__" "Strong.__init__",
  fdN s_Sun ("Sun", some "__init__") "__init__" "Sun.__init__",
  fdN s_Unbalanced ("Unbalanced", some "__init__") "__init__" "Unbalanced.__init__",
  fdN s_Cover ("Cover", some "__init__") "__init__" "Cover.__init__",
  fdN s_CoverGap ("CoverGap", some "__init__") "__init__" "CoverGap.__init__",
  fdN s_BagFactors ("BagFactors", some "__init__") "__init__" "BagFactors.__init__",
  fdN s_NoFactors ("NoFactors", some "__init__") "__init__" "NoFactors.__init__",
  fdN s_UnlikeTwo ("UnlikeTwo", some "__init__") "__init__" "UnlikeTwo.__init__",
  fdN s_Hanging ("Hanging", some "__init__") "__init__" "Hanging.__init__",
  fdN s_Folds ("Folds", some "__init__") "__init__" "Folds.__init__",
  fdN s_Knot ("Knot", some "__init__") "__init__" "Knot.__init__",
  fdN s_Signed ("Signed", some "__init__") "__init__" "Signed.__init__",
  fdN s_Hued ("Hued", some "__init__") "__init__" "Hued.__init__",
  fdN s_BagRow ("BagRow", some "__init__") "__init__" "BagRow.__init__",
  fdN s_FarThree ("FarThree", some "__init__") "__init__" "FarThree.__init__",
  fdN s_Stretches ("Stretches", some "__init__") "__init__" "Stretches.__init__",
  fdN s_OddHole ("OddHole", some "__init__") "__init__" "OddHole.__init__",
  fdN s_OddAntihole ("OddAntihole", some "__init__") "__init__" "OddAntihole.__init__",
  fdN s_NarrowTree ("NarrowTree", some "__init__") "__init__" "NarrowTree.__init__",
  fdN s_Crowds ("Crowds", some "__init__") "__init__" "Crowds.__init__",
  fdN s_PathBags ("PathBags", some "__init__") "__init__" "PathBags.__init__"]
def fnl : List He.FnD := fnl1 ++ fnl2
abbrev R : PySem.W.OpenRow := PySem.W.OpenLaw.row PySem.Challenge.rw_bagtrees_k90_classes_made_by_hand
def names0 : List Str := ["__name__", "copied", "Above", "Flat", "Below", "Taken", "Ringed", "BagSum", "LowAt", "SumBar", "Squares", "SumsEver", "SumLost", "Agree", "Disagree", "Whole", "CountBar", "CountsEver", "CountsLost", "FillsEver", "FillLost", "PartingsTied", "PartingLoose", "Factors", "NotAbove", "SolvedEver", "NewEver", "LeastNew", "BagTree", "RingTables"]
def names1 : List Str := ["NewNumber", "RingCounts", "PartBreak", "Parted", "Way", "Held", "Unheld", "KeepsWeb", "Breaks", "FreeLot", "TiedCover", "AllAbove", "CornerLow", "Strong", "Sun", "Balanced", "Unbalanced", "Cover", "CoverGap", "BagFactors", "NoFactors", "AgreeTwo", "UnlikeTwo", "AgreeAll", "Hanging", "Folds", "Knot", "Signed", "Hued", "BagRow"]
def names2 : List Str := ["FarThree", "Stretches", "Perfect", "OddHole", "OddAntihole", "NarrowTree", "Crowds", "PathBags", "_law_pen", "_law_draw", "_law_pick", "_law_made_a", "_law_made_b", "_law_made_c", "_law_made_d", "_law_made_e", "_law_bare", "_law_value", "_law_copy"]
def names : List Str := names0 ++ names1 ++ names2
abbrev qv : Program := PySem.W.view R.prog [102]
end M.K90
end
section
set_option Elab.async false
set_option linter.all false
set_option maxRecDepth 100000
set_option maxHeartbeats 0
set_option autoImplicit false
namespace M.K90
open PySem PySem.Spec PyProof.Rows L2
theorem partA (w : World) : PartEq R 40000 w (tabOk tb) := by
  intro os
  kernel_rfl
theorem partB1 (w : World) (os : OsState) : (HandSHeadRun.endF (HandSHeadRun.stepQ (HandSHeadRun.denQ HandSHeadRun.tabQ) R.prog w) 40000 R.prog w os).map (fun s => obsM (fun _ => true) fnl1 (frM (HandSHeadRun.getT s))) = some (valM fnl1) := by
  kernel_rfl
theorem partB2 (w : World) (os : OsState) : (HandSHeadRun.endF (HandSHeadRun.stepQ (HandSHeadRun.denQ HandSHeadRun.tabQ) R.prog w) 40000 R.prog w os).map (fun s => obsM (fun _ => true) fnl2 (frM (HandSHeadRun.getT s))) = some (valM fnl2) := by
  kernel_rfl
theorem part0 (w : World) : HandSHeadRun.RunEq R qv PySem.W.Hook.none (fun _ => ()) 40000 names w := by
  intro os
  kernel_rfl
end M.K90
end
section
set_option Elab.async false
set_option linter.all false
/-! Sem1: values, stores, the small language, its meaning. -/
namespace M

/-- a value: data by value (a text by its codes; lck: a list that is locked); ref n: the n-th object of the store; fn: a def, a class of the module; clo k n: the k-th lambda, made in the n-th frame; exc: an exception -/
inductive Va where
  | non | bl (b : Bool) | int (i : Int) | str (s : List Nat)
  | tup (vs : List Va) | lst (vs : List Va) | lck (vs : List Va) | dct (kvs : List (Va × Va))
  | ins (C : String) (fs : List (String × Va))
  | ref (n : Nat) | fn (f : String) | clo (k n : Nat) | exc (C : String) (fs : List (String × Va))
  deriving Inhabited
/-- an object of the store -/
inductive Ob where
  | lst (vs : List Va) | dct (kvs : List (Va × Va)) | ins (C : String) (fs : List (String × Va)) | dead
  deriving Inhabited
abbrev Sto := List Ob
abbrev Sl := List (Option Va)
abbrev Fr := List Sl

/-- a result over a state -/
inductive R (σ α : Type) where
  | ok (a : α) (s : σ) | exc (x : Va) (s : σ) | bad
namespace R
variable {σ α β : Type}
def bind (r : R σ α) (f : α → σ → R σ β) : R σ β := match r with
  | .ok a s => f a s
  | .exc x s => .exc x s
  | .bad => .bad
/-- a partial answer -/
def of (o : Option α) (s : σ) : R σ α := match o with
  | some a => .ok a s
  | none => .bad
@[simp] theorem bind_ok (a : α) (s : σ) (f : α → σ → R σ β) : (R.ok a s).bind f = f a s := rfl
@[simp] theorem bind_exc (x : Va) (s : σ) (f : α → σ → R σ β) : (R.exc x s : R σ α).bind f = .exc x s := rfl
@[simp] theorem bind_bad (f : α → σ → R σ β) : (R.bad : R σ α).bind f = .bad := rfl
@[simp] theorem of_some (a : α) (s : σ) : R.of (some a) s = .ok a s := rfl
@[simp] theorem of_none (s : σ) : (R.of none s : R σ α) = .bad := rfl
end R
abbrev Fs := Fr → List Va → Sto → R Sto Va

/-! ### the language -/
inductive Bop where | add | sub | mul | fdiv | mod | pow
inductive Cop where | eq | ne | lt | le | gt | ge | isIn | notIn
/-- built-ins by name -/
inductive Bi where
  | len | abs | min2 | max2 | minL | maxL | all | any | sum | sorted | sortedSet | lenSet | tuple | list | str | int | repr | dict | gcd
inductive Ty where | int | bool | str | tuple | list | own (C : String)
/-- methods of built-in types -/
inductive Mt where | append | pop | popAt | index | remove | split | join | startswith | replace | get | items
inductive E where
  | var (i : Nat) | con (v : Va) | gl (x : String) | fnv (f : String)
  | bin (op : Bop) (a b : E) | neg (a : E) | no (a : E) | cmp (op : Cop) (a b : E) | isC (neg : Bool) (a : E) (c : Va)
  | chn (o1 o2 : Cop) (a b c : E) | chn3 (o1 o2 o3 : Cop) (a b c d : E)
  | and (a b : E) | or (a b : E) | ite (c a b : E)
  | idx (a i : E) | sl (a : E) (lo hi : Option E) | rev (a : E) | attr (a : E) (f : String)
  | tup (es : List E) | lst (m : Bool) (es : List E) | dct (m : Bool) (ks : List Va) (vs : List E)
  | comp (m : Bool) (elt : E) (tg : List Nat) (one : Bool) (vs : List Nat) (it : E) (cond : Option E)
  | call (f : String) (es : List E) | mcall (m : String) (a : E) (es : List E) | cal (i : Nat) (es : List E) | lam (k : Nat)
  | bi (b : Bi) (es : List E) | mk (b : Bi) (a : E) | isin (a : E) (ts : List Ty) | mt (m : Mt) (a : E) (es : List E)
  | fstr (ps : List E)
  -- what is walked
  | range1 (a : E) | range2 (a b : E) | range3 (a b c : E) | zip (a b : E) | enum (a : E)
inductive Tg where
  | nm (i : Nat) | ix (a i : E) | at_ (a : E) (f : String) | tp (ts : List Tg)
inductive S where
  | asg (t : Tg) (e : E) | aug (i : Nat) (op : Bop) (e : E) | expr (e : E) | ret (e : E) | retN
  | ifs (c : E) (a b : List S) | fors (tg : List Nat) (one : Bool) (it : E) (b : List S) | whl (c : E) (b : List S)
  | rais (C : String) (es : List E) | try_ (b : List S) (hs : List (String × Option Nat × List S)) | fin (b f : List S)
  | brk | cnt | pass
inductive Fl where | nx | ret (v : Va) | brk | cnt

/-! ### values -/
abbrev Lm : Nat := 1000000
def b2i (b : Bool) : Int := if b then 1 else 0
/-- plain data, nested so deep at most -/
def dat : Nat → Va → Bool
  | _, .non | _, .bl _ | _, .int _ | _, .str _ => true
  | n + 1, .tup vs | n + 1, .lst vs => vs.all (dat n)
  | _, _ => false
abbrev Dp : Nat := 20
mutual
/-- == of data -/
def veq : Va → Va → Bool
  | .non, b => (match b with | .non => true | _ => false)
  | .bl a, b => (match b with | .bl c => a == c | .int j => decide (b2i a = j) | _ => false)
  | .int i, b => (match b with | .bl c => decide (i = b2i c) | .int j => decide (i = j) | _ => false)
  | .str x, b => (match b with | .str y => decide (x = y) | _ => false)
  | .tup xs, b => (match b with | .tup ys => veqs xs ys | _ => false)
  | .lst xs, b => (match b with | .lst ys => veqs xs ys | _ => false)
  | _, _ => false
def veqs : List Va → List Va → Bool
  | [], ys => (match ys with | [] => true | _ => false)
  | x :: xs, ys => (match ys with | y :: ys => veq x y && veqs xs ys | [] => false)
end
/-- what stands at a value: an object's content by value -/
def rd (st : Sto) : Va → Va
  | .ref n => (match st[n]? with
    | some (.lst vs) => .lst vs
    | some (.dct kvs) => .dct kvs
    | some (.ins C fs) => .ins C fs
    | _ => .ref n)
  | v => v
def eqv? (a b : Va) : Option Bool := if dat Dp a && dat Dp b then some (veq a b) else none
/-- an int's list, a texts' list -/
def ints? : List Va → Option (List Int)
  | [] => some []
  | .int i :: r => (ints? r).map (i :: ·)
  | _ :: _ => none
def strs? : List Va → Option (List (List Nat))
  | [] => some []
  | .str i :: r => (strs? r).map (i :: ·)
  | _ :: _ => none
def bls? : List Va → Option (List Bool)
  | [] => some []
  | .bl i :: r => (bls? r).map (i :: ·)
  | _ :: _ => none
/-- tuples of ints -/
def tups? : List Va → Option (List (List Int))
  | [] => some []
  | .tup vs :: r => (ints? vs).bind fun x => (tups? r).map (x :: ·)
  | _ :: _ => none
/-- what may be walked as a row: a list, a tuple -/
def row? : Va → Option (List Va)
  | .lst vs | .tup vs | .lck vs => some vs
  | _ => none
/-- insertion -/
def insB {α : Type} (lt : α → α → Bool) (x : α) : List α → List α
  | [] => [x]
  | y :: r => if lt x y then x :: y :: r else y :: insB lt x r
def isort {α : Type} (lt : α → α → Bool) : List α → List α
  | [] => []
  | x :: r => insB lt x (isort lt r)
def lexI : List Int → List Int → Bool
  | [], [] => false
  | [], _ :: _ => true
  | _ :: _, [] => false
  | x :: xs, y :: ys => if x = y then lexI xs ys else decide (x < y)
def lexN : List Nat → List Nat → Bool
  | [], [] => false
  | [], _ :: _ => true
  | _ :: _, [] => false
  | x :: xs, y :: ys => if x = y then lexN xs ys else decide (x < y)
def dedup {α : Type} [DecidableEq α] : List α → List α
  | [] => []
  | x :: r => if x ∈ r then dedup r else x :: dedup r
/-- sorted, a set first -/
def sorted? (u : Bool) (vs : List Va) : Option (List Va) :=
  match ints? vs with
  | some l => some ((isort (fun a b => decide (a < b)) (if u then dedup l else l)).map .int)
  | none => match strs? vs with
    | some l => some ((isort lexN (if u then dedup l else l)).map .str)
    | none => (tups? vs).map fun l => (isort lexI (if u then dedup l else l)).map fun t => .tup (t.map .int)
def lenSet? (vs : List Va) : Option Nat := if vs.all (dat Dp) then some (vs.foldr (fun x r => if r.any (veq x) then r else x :: r) []).length else none
def seqI (n : Nat) (i : Int) : Option Nat := if 0 ≤ i then (if i < n then some i.toNat else none) else if -(n : Int) ≤ i then some (i + n).toNat else none
def cut {α : Type} (xs : List α) (lo hi : Option Int) : List α := (xs.drop (HT.sIx xs.length 0 lo)).take (HT.sIx xs.length xs.length hi - HT.sIx xs.length 0 lo)
def getK (kvs : List (Va × Va)) (k : Va) : Option Va := (kvs.find? fun p => veq p.1 k).map (·.2)
def putK (kvs : List (Va × Va)) (k v : Va) : List (Va × Va) := if kvs.any (fun p => veq p.1 k) then kvs.map (fun p => if veq p.1 k then (p.1, v) else p) else kvs ++ [(k, v)]
def getF (fs : List (String × Va)) (f : String) : Option Va := fs.lookup f
def putF : List (String × Va) → String → Va → List (String × Va)
  | [], f, v => [(f, v)]
  | p :: r, f, v => if p.1 = f then (f, v) :: r else p :: putF r f v
/-- a key: an int, a text -/
def isKey : Va → Bool
  | .int _ | .str _ => true
  | _ => false
def pairs? : List Va → Option (List (Va × Va))
  | [] => some []
  | .tup [a, b] :: r => if isKey a then (pairs? r).map ((a, b) :: ·) else none
  | _ :: _ => none
def small (n : Nat) : Bool := decide (n ≤ Lm)
def big (i : Int) : Bool := decide (i.natAbs < 2 ^ 64)
def big62? (i : Int) : Bool := decide (i.natAbs < 2 ^ 62)
def wide (i : Int) : Bool := decide (i.natAbs < 2 ^ 9000)
/-- of a whole number: its decimal digits -/
def digits (n : Nat) : List Nat := TL.numL n

/-! ### operators -/
def addV (a b : Va) : Option Va := match a, b with
  | .int i, .int j => some (.int (i + j))
  | .str x, .str y => if small (x.length + y.length) then some (.str (x ++ y)) else none
  | .tup x, .tup y => if small (x.length + y.length) then some (.tup (x ++ y)) else none
  | .lst x, .lst y => if small (x.length + y.length) then some (.lst (x ++ y)) else none
  | _, _ => none
def subV (a b : Va) : Option Va := match a, b with
  | .int i, .int j => some (.int (i - j))
  | _, _ => none
def mulV (a b : Va) : Option Va := match a, b with
  | .int i, .int j => if big i || big j || (wide i && wide j) then some (.int (i * j)) else none
  | .lst x, .int k => if decide (k.natAbs < 2 ^ 62) && small (x.length * k.toNat) then some (.lst (List.replicate k.toNat x).flatten) else none
  | .tup x, .int k => if decide (x ≠ []) && decide (2 ≤ k) && decide (k ≤ 1000) && decide (x.length ≤ 1000) then some (.tup (List.replicate k.toNat x).flatten) else none
  | _, _ => none
def fdivV (a b : Va) : Option Va := match a, b with
  | .int i, .int j => if decide (0 < j) && wide j then some (.int (i / j)) else if decide (j ≠ 0) && decide (j.natAbs < 1073741824) then some (.int (i.fdiv j)) else none
  | _, _ => none
def modV (a b : Va) : Option Va := match a, b with
  | .int i, .int j => if 0 < j then some (.int (i % j)) else if j ≠ 0 then some (.int (i.fmod j)) else none
  | _, _ => none
def powV (a b : Va) : Option Va := match a, b with
  | .int i, .int j => if decide (0 ≤ j) && decide (j ≤ 1000000) && big i then some (.int (i ^ j.toNat)) else none
  | _, _ => none
def binop (op : Bop) (a b : Va) : Option Va := match op with
  | .add => addV a b
  | .sub => subV a b
  | .mul => mulV a b
  | .fdiv => fdivV a b
  | .mod => modV a b
  | .pow => powV a b
def inop (a b : Va) : Option Bool := match b with
  | .lst ys | .tup ys => if dat Dp a && ys.all (dat Dp) then some (ys.any fun y => veq y a) else none
  | .dct kvs => if isKey a then some (getK kvs a).isSome else none
  | .str y => (match a with
    | .str [c] => some (decide (c ∈ y))
    | _ => none)
  | _ => none
def cmpop (op : Cop) (a b : Va) : Option Bool := match op with
  | .eq => eqv? a b
  | .ne => (eqv? a b).map (!·)
  | .isIn => inop a b
  | .notIn => (inop a b).map (!·)
  | .lt => (match a, b with | .int i, .int j => some (decide (i < j)) | _, _ => none)
  | .le => (match a, b with | .int i, .int j => some (decide (i ≤ j)) | _, _ => none)
  | .gt => (match a, b with | .int i, .int j => some (decide (j < i)) | _, _ => none)
  | .ge => (match a, b with | .int i, .int j => some (decide (j ≤ i)) | _, _ => none)
def isN : Va → Bool
  | .non => true
  | _ => false
def isop (a c : Va) : Option Bool := match c with
  | .non => some (isN a)
  | .bl y => (match a with | .bl x => some (decide (x = y)) | _ => none)
  | _ => none
def isBase (v : Va) : Bool := match v with
  | .non | .bl _ | .int _ | .str _ | .tup _ | .lst _ | .lck _ | .dct _ => true
  | _ => false
/-- is a value of a type: kt: the pairs of own classes that are known -/
def isTy (kt : List (String × String)) (kb : List String) (v : Va) (t : Ty) : Option Bool := match t with
  | .own C => (match v with
    | .ins D _ => if kt.contains (D, C) then some (decide (D = C)) else none
    | v => if isBase v && kb.contains C then some false else none)
  | t => (match v with
    | .ins D _ => if kb.contains D then some false else none
    | v => if isBase v then some (match t, v with
      | .int, .int _ | .int, .bl _ | .bool, .bl _ | .str, .str _ | .tuple, .tup _ | .list, .lst _ | .list, .lck _ => true
      | _, _ => false) else none)
/-- of one of some types -/
def isTys (kt : List (String × String)) (kb : List String) (v : Va) : List Ty → Option Bool
  | [] => some false
  | t :: r => match isTy kt kb v t with
    | some true => some true
    | some false => isTys kt kb v r
    | none => none
def idxop (a i : Va) : Option Va := match a with
  | .lst vs | .tup vs => (match i with
    | .int k => (seqI vs.length k).bind fun j => vs[j]?
    | _ => none)
  | .str s => (match i with
    | .int k => if small s.length then ((seqI s.length k).bind fun j => s[j]?).map fun c => .str [c] else none
    | _ => none)
  | .dct kvs => if isKey i then getK kvs i else none
  | _ => none
def slop (a : Va) (lo hi : Option Int) : Option Va := match a with
  | .lst vs => some (.lst (cut vs lo hi))
  | .tup vs => some (.tup (cut vs lo hi))
  | .str s => if small s.length then some (.str (cut s lo hi)) else none
  | _ => none
def revop : Va → Option Va
  | .lst vs => some (.lst vs.reverse)
  | _ => none
mutual
def toD : Va → PySem.PyData
  | .bl b => .bool b
  | .int i => .int i
  | .str s => .str ⟨s.toArray⟩
  | .tup vs => .tuple (toDs vs)
  | .lst vs => .list (toDs vs)
  | .dct kvs => .dict (toDk kvs)
  | _ => .none
def toDs : List Va → List PySem.PyData
  | [] => []
  | v :: r => toD v :: toDs r
def toDk : List (Va × Va) → List (PySem.PyData × PySem.PyData)
  | [] => []
  | (k, v) :: r => (toD k, toD v) :: toDk r
end
/-- as repr shows it -/
def shown (v : Va) : List Nat := TL.tl (toD v).shown
/-- what repr can show: data, dicts of texts and ints -/
def datR : Nat → Va → Bool
  | _, .non | _, .bl _ | _, .str _ => true
  | _, .int i => decide (i.natAbs.log2 < 1920)
  | n + 1, .tup vs | n + 1, .lst vs => vs.all (datR n)
  | n + 1, .dct kvs => kvs.all fun p => datR n p.1 && datR n p.2
  | _, _ => false
def isum (l : List Int) : Int := l.foldr (· + ·) 0
def minI : List Int → Option Int
  | [] => none
  | x :: r => some (r.foldl (fun m y => if y < m then y else m) x)
def maxI : List Int → Option Int
  | [] => none
  | x :: r => some (r.foldl (fun m y => if m < y then y else m) x)
/-- a text of digits -/
def readI (s : List Nat) : Option Int := if s.length ≤ 640 then PySem.intText? ⟨s.toArray⟩ else none
def lenV : Va → Option Va
  | .lst x | .tup x => some (.int x.length)
  | .str x => if small x.length then some (.int x.length) else none
  | .dct x => some (.int x.length)
  | _ => none
def absV : Va → Option Va
  | .int i => some (.int (if i < 0 then -i else i))
  | _ => none
def minV (a b : Va) : Option Va := match a, b with
  | .int i, .int j => some (.int (if j < i then j else i))
  | _, _ => none
def maxV (a b : Va) : Option Va := match a, b with
  | .int i, .int j => some (.int (if j > i then j else i))
  | _, _ => none
def gcdV (a b : Va) : Option Va := match a, b with
  | .int i, .int j => some (.int ((Nat.gcd i.natAbs j.natAbs : Nat) : Int))
  | _, _ => none
def minLV (v : Va) : Option Va := match v with
  | .lst x => (ints? x).bind fun l => (minI l).map .int
  | _ => none
def maxLV (v : Va) : Option Va := match v with
  | .lst x => (ints? x).bind fun l => (maxI l).map .int
  | _ => none
def sumV (v : Va) : Option Va := match v with
  | .lst x => (ints? x).map fun l => .int (isum l)
  | _ => none
def allV (v : Va) : Option Va := match v with
  | .lst x => (bls? x).map fun l => .bl (l.all id)
  | _ => none
def anyV (v : Va) : Option Va := match v with
  | .lst x => (bls? x).map fun l => .bl (l.any id)
  | _ => none
def sortV (u : Bool) (v : Va) : Option Va := (row? v).bind fun x => (sorted? u x).map .lst
def lenSetV (v : Va) : Option Va := (row? v).bind fun x => (lenSet? x).map fun n => .int n
def tupV (v : Va) : Option Va := (row? v).map .tup
def lstV (v : Va) : Option Va := (row? v).map .lst
def strV (v : Va) : Option Va := match v with
  | .int i => if 0 ≤ i ∧ i.natAbs.log2 < 1920 then some (.str (digits i.toNat)) else none
  | _ => none
def intV (v : Va) : Option Va := match v with
  | .int i => some (.int i)
  | .bl k => some (.int (b2i k))
  | .str s => (readI s).map .int
  | _ => none
mutual
/-- a bound of what repr shows -/
def szR : Va → Nat
  | .non | .bl _ => 5
  | .int _ => 1921
  | .str s => if s.all (fun c => decide (c < 16 ^ 8)) then 10 * s.length + 2 else Lm + 1
  | .tup vs | .lst vs => szRs vs + 3
  | .dct kvs => szRk kvs + 3
  | _ => 0
def szRs : List Va → Nat
  | [] => 0
  | v :: r => szR v + 2 + szRs r
def szRk : List (Va × Va) → Nat
  | [] => 0
  | (k, v) :: r => szR k + szR v + 4 + szRk r
end
def reprV (v : Va) : Option Va := if datR Dp v && small (szR v) then some (.str (shown v)) else none
def dctV (v : Va) : Option Va := (row? v).bind fun x => (pairs? x).map fun ps => .dct (ps.foldl (fun d p => putK d p.1 p.2) [])
/-- built-ins on values (objects' contents by value) -/
def bi1 (b : Bi) (v : Va) : Option Va := match b with
  | .len => lenV v
  | .abs => absV v
  | .minL => minLV v
  | .maxL => maxLV v
  | .sum => sumV v
  | .all => allV v
  | .any => anyV v
  | .sorted => sortV false v
  | .sortedSet => sortV true v
  | .lenSet => lenSetV v
  | .tuple => tupV v
  | .list => lstV v
  | .str => strV v
  | .int => intV v
  | .repr => reprV v
  | .dict => dctV v
  | _ => none
def bi2 (b : Bi) (v w : Va) : Option Va := match b with
  | .min2 => minV v w
  | .max2 => maxV v w
  | .gcd => gcdV v w
  | _ => none
def biop (b : Bi) (vs : List Va) : Option Va := match vs with
  | [v] => bi1 b v
  | [v, w] => bi2 b v w
  | _ => none
end M
end
section
set_option Elab.async false
set_option linter.all false
/-! Sem2: what the language means. -/
namespace M
noncomputable section
instance : DecidableEq Va := fun _ _ => Classical.propDecidable _

/-- the tables: defs (classes as makers, methods as C.m), constants, lambdas -/
structure Pg where
  fn : List (String × Fs) := []
  gv : List (String × Va) := []
  lam : List (Sl → Fs) := []
  /-- the fields that may be asked of a class -/
  at_ : List (String × List String) := []
  /-- the classes without an own == -/
  idn : List String := []
  /-- the pairs of classes of which isinstance is known -/
  kit : List (String × String) := []
  /-- the classes of which it is known against built-in types -/
  kitb : List String := []
variable (G : Pg)
def hasF (C f : String) : Bool := match G.at_.lookup C with
  | some fs => fs.contains f
  | none => false
/-- == of two objects without an own == -/
def idq (st : Sto) (x y : Va) : Option Bool := match x, y with
  | .ref n, .ref m => (match st[n]?, st[m]? with
    | some (.ins C _), some (.ins D _) => if G.idn.contains C && G.idn.contains D then some (decide (n = m)) else none
    | _, _ => none)
  | _, _ => none
/-- a comparison -/
def cmpV (op : Cop) (st : Sto) (x y : Va) : Option Bool := match op with
  | .eq => (match idq G st x y with
    | some b => some b
    | none => eqv? (rd st x) (rd st y))
  | .ne => (match idq G st x y with
    | some b => some !b
    | none => (eqv? (rd st x) (rd st y)).map (!·))
  | op => cmpop op (rd st x) (rd st y)
def truth : Va → Option Bool
  | .bl b => some b
  | _ => none
/-- one more object -/
def alloc (o : Ob) (st : Sto) : R Sto Va := .ok (.ref st.length) (st ++ [o])
def fresh (m : Bool) (v : Va) (st : Sto) : R Sto Va := match m, v with
  | true, .lst vs => alloc (.lst vs) st
  | true, .dct kvs => alloc (.dct kvs) st
  | false, v => .ok v st
  | _, _ => .bad
def textOf : Va → Option (List Nat)
  | .str s => some s
  | .int i => if 0 ≤ i ∧ i.natAbs.log2 < 1920 then some (digits i.toNat) else none
  | _ => none
def texts? : List Va → Option (List Nat)
  | [] => some []
  | v :: r => (textOf v).bind fun x => (texts? r).bind fun y => if small (x.length + y.length) then some (x ++ y) else none
def rangeL (lo hi : Int) : List Va := (List.range (hi - lo).toNat).map fun (i : Nat) => .int (lo + (i : Int))
def rangeD (lo hi : Int) : List Va := (List.range (lo - hi).toNat).map fun (i : Nat) => .int (lo - (i : Int))
def zipL (a b : List Va) : List Va := (a.zip b).map fun p => .tup [p.1, p.2]
def enumL (k : Nat) : List Va → List Va
  | [] => []
  | v :: r => .tup [.int k, v] :: enumL (k + 1) r
/-- of which type a method is -/
def mtOk : Mt → Va → Bool
  | .append, .lst _ | .pop, .lst _ | .popAt, .lst _ | .remove, .lst _ | .index, .lst _ => true
  | .index, .tup _ => true
  | .split, .str _ | .join, .str _ | .startswith, .str _ | .replace, .str _ => true
  | .get, .dct _ | .items, .dct _ => true
  | _, _ => false
def appV (v c : Va) (vs : List Va) (st : Sto) : R Sto Va := match v with
  | .ref n => (match c with
    | .lst xs => (match vs with
      | [x] => if small xs.length then .ok .non (st.set n (.lst (xs ++ [x]))) else .bad
      | _ => .bad)
    | _ => .bad)
  | _ => .bad
def popV (v c : Va) (vs : List Va) (st : Sto) : R Sto Va := match v with
  | .ref n => (match c with
    | .lst xs => (match vs with
      | [] => (match xs.getLast? with
        | some x => .ok x (st.set n (.lst xs.dropLast))
        | none => .bad)
      | _ => .bad)
    | _ => .bad)
  | _ => .bad
def popAtV (v c : Va) (vs : List Va) (st : Sto) : R Sto Va := match v with
  | .ref n => (match c with
    | .lst xs => (match vs with
      | [.int i] => (match seqI xs.length i with
        | some j => (match xs[j]? with
          | some x => .ok x (st.set n (.lst (xs.eraseIdx j)))
          | none => .bad)
        | none => .bad)
      | _ => .bad)
    | _ => .bad)
  | _ => .bad
def remV (v c : Va) (vs : List Va) (st : Sto) : R Sto Va := match v with
  | .ref n => (match c with
    | .lst xs => (match vs with
      | [x] => if xs.all (dat Dp) && dat Dp x then (match xs.findIdx? (fun y => veq y x) with
        | some j => .ok .non (st.set n (.lst (xs.eraseIdx j)))
        | none => .bad) else .bad
      | _ => .bad)
    | _ => .bad)
  | _ => .bad
def indV (c : Va) (vs : List Va) (st : Sto) : R Sto Va := match row? c with
  | some xs => (match vs with
    | [x] => if xs.all (dat Dp) && dat Dp x then (match xs.findIdx? (fun y => veq y x) with
      | some j => .ok (.int j) st
      | none => .bad) else .bad
    | _ => .bad)
  | none => .bad
def splV (c : Va) (vs : List Va) (st : Sto) : R Sto Va := match c with
  | .str s => (match vs with
    | [.str t] => if t.isEmpty || !small s.length then .bad else .ok (.lst ((TL.spl t 0 [] s).map .str)) st
    | _ => .bad)
  | _ => .bad
def joiV (c : Va) (vs : List Va) (st : Sto) : R Sto Va := match c with
  | .str s => (match vs with
    | [w] => (match (row? (rd st w)).bind strs? with
      | some ts => if small (TL.joinL s ts).length && small ts.length then .ok (.str (TL.joinL s ts)) st else .bad
      | none => .bad)
    | _ => .bad)
  | _ => .bad
def staV (c : Va) (vs : List Va) (st : Sto) : R Sto Va := match c with
  | .str s => (match vs with
    | [.str t] => .ok (.bl (t.isPrefixOf s)) st
    | _ => .bad)
  | _ => .bad
def getV (c : Va) (vs : List Va) (st : Sto) : R Sto Va := match c with
  | .dct kvs => (match vs with
    | [k] => if isKey k then .ok ((getK kvs k).getD .non) st else .bad
    | [k, d] => if isKey k then .ok ((getK kvs k).getD d) st else .bad
    | _ => .bad)
  | _ => .bad
def iteV (c : Va) (vs : List Va) (st : Sto) : R Sto Va := match c with
  | .dct kvs => (match vs with
    | [] => .ok (.lst (kvs.map fun p => .tup [p.1, p.2])) st
    | _ => .bad)
  | _ => .bad
/-- methods of built-in types: the receiver itself, its content, the rest -/
def mtop (m : Mt) (v : Va) (c : Va) (vs : List Va) (st : Sto) : R Sto Va := match m with
  | .append => appV v c vs st
  | .pop => popV v c vs st
  | .popAt => popAtV v c vs st
  | .remove => remV v c vs st
  | .index => indV c vs st
  | .split => splV c vs st
  | .join => joiV c vs st
  | .startswith => staV c vs st
  | .replace => .bad
  | .get => getV c vs st
  | .items => iteV c vs st
def bindTg (st : Sto) (ρ : Sl) (is : List Nat) (one : Bool) (v : Va) : Option Sl := match one with
  | true => (match is with
    | [i] => some (ρ.set i (some v))
    | _ => none)
  | false => (row? (rd st v)).bind fun vs => if vs.length = is.length then some ((is.zip vs).foldl (fun ρ p => ρ.set p.1 (some p.2)) ρ) else none
def wipe (ρ : Sl) : List Nat → Sl
  | [] => ρ
  | i :: r => (wipe ρ r).set i none
/-- what must not raise -/
def noX {σ α : Type} (r : R σ α) : R σ α := match r with
  | .exc _ _ => .bad
  | r => r
/-- is the walked row what it was -/
def still (st : Sto) (v : Va) (xs : List Va) : Prop := row? (rd st v) = some xs
instance {st : Sto} {v : Va} {xs : List Va} : Decidable (still st v xs) := Classical.propDecidable _
/-- a comprehension's turns -/
def compL (w : Va) (all : List Va) (f : Va → Sto → R Sto (Option Va)) : List Va → Sto → R Sto (List Va)
  | [], st => if still st w all then .ok [] st else .bad
  | x :: r, st => if still st w all then (f x st).bind fun o st => (compL w all f r st).bind fun vs st => match o with
    | some v => .ok (v :: vs) st
    | none => .ok vs st
    else .bad
mutual
def evE (fr : Fr) : E → Sl → Sto → R Sto Va
  | .var i, ρ, st => R.of (ρ[i]?.bind id) st
  | .con v, _, st => .ok v st
  | .gl x, _, st => R.of (G.gv.lookup x) st
  | .fnv f, _, st => .ok (.fn f) st
  | .bin op a b, ρ, st => (evE fr a ρ st).bind fun x st => (evE fr b ρ st).bind fun y st => R.of (binop op (rd st x) (rd st y)) st
  | .neg a, ρ, st => (evE fr a ρ st).bind fun x st => (match x with
    | .int i => .ok (.int (-i)) st
    | _ => .bad)
  | .no a, ρ, st => (evE fr a ρ st).bind fun x st => R.of ((truth x).map fun b => .bl !b) st
  | .cmp op a b, ρ, st => (evE fr a ρ st).bind fun x st => (evE fr b ρ st).bind fun y st => R.of ((cmpV G op st x y).map .bl) st
  | .isC ng a c, ρ, st => (evE fr a ρ st).bind fun x st => R.of ((isop x c).map fun b => .bl (b != ng)) st
  | .chn o1 o2 a b c, ρ, st => (evE fr a ρ st).bind fun x st => (evE fr b ρ st).bind fun y st => (R.of (cmpV G o1 st x y) st).bind fun t st =>
      if t then (evE fr c ρ st).bind fun z st => R.of ((cmpV G o2 st y z).map .bl) st else .ok (.bl false) st
  | .chn3 o1 o2 o3 a b c d, ρ, st => (evE fr a ρ st).bind fun x st => (evE fr b ρ st).bind fun y st => (R.of (cmpV G o1 st x y) st).bind fun t st =>
      if t then (evE fr c ρ st).bind fun z st => (R.of (cmpV G o2 st y z) st).bind fun t st =>
        if t then (evE fr d ρ st).bind fun u st => R.of ((cmpV G o3 st z u).map .bl) st else .ok (.bl false) st
      else .ok (.bl false) st
  | .and a b, ρ, st => (evE fr a ρ st).bind fun x st => (R.of (truth x) st).bind fun t st => if t then evE fr b ρ st else .ok (.bl false) st
  | .or a b, ρ, st => (evE fr a ρ st).bind fun x st => (R.of (truth x) st).bind fun t st => if t then .ok (.bl true) st else evE fr b ρ st
  | .ite c a b, ρ, st => (evE fr c ρ st).bind fun x st => (R.of (truth x) st).bind fun t st => if t then evE fr a ρ st else evE fr b ρ st
  | .idx a i, ρ, st => (evE fr a ρ st).bind fun x st => (evE fr i ρ st).bind fun y st => R.of (idxop (rd st x) y) st
  | .sl a lo hi, ρ, st => (evE fr a ρ st).bind fun x st => (evO fr lo ρ st).bind fun l st => (evO fr hi ρ st).bind fun h st => R.of (slop (rd st x) l h) st
  | .rev a, ρ, st => (evE fr a ρ st).bind fun x st => R.of (revop (rd st x)) st
  | .attr a f, ρ, st => (evE fr a ρ st).bind fun x st => (match rd st x with
    | .ins C fs => if hasF G C f then R.of (getF fs f) st else .bad
    | _ => .bad)
  | .tup es, ρ, st => (evEs fr es ρ st).bind fun vs st => .ok (.tup vs) st
  | .lst m es, ρ, st => (evEs fr es ρ st).bind fun vs st => fresh m (.lst vs) st
  | .dct m ks es, ρ, st => (evEs fr es ρ st).bind fun ws st => if ks.all isKey && decide (ks.length = ws.length) && decide (ks.length ≤ 15) then fresh m (.dct ((ks.zip ws).foldl (fun d p => putK d p.1 p.2) [])) st else .bad
  | .comp m elt tg one vs it cond, ρ, st => (evE fr it ρ st).bind fun w st => match row? (rd st w) with
    | none => .bad
    | some xs => if small xs.length then (compL w xs (fun x st => match bindTg st (wipe ρ vs) tg one x with
      | none => .bad
      | some ρ1 => (noX (evC fr cond ρ1 st)).bind fun t st => if t then (noX (evE fr elt ρ1 st)).bind fun v st => .ok (some v) st else .ok none st) xs st).bind fun l st =>
        fresh m (.lst l) st else .bad
  | .call f es, ρ, st => (evEs fr es ρ st).bind fun vs st => match G.fn.lookup f with
    | some F => F (fr ++ [ρ]) vs st
    | none => .bad
  | .mcall m a es, ρ, st => (evE fr a ρ st).bind fun x st => (evEs fr es ρ st).bind fun vs st => match rd st x with
    | .ins C _ => (match G.fn.lookup (C ++ "." ++ m) with
      | some F => F (fr ++ [ρ]) (x :: vs) st
      | none => .bad)
    | _ => .bad
  | .cal i es, ρ, st => (R.of (ρ[i]?.bind id) st).bind fun g st => (evEs fr es ρ st).bind fun vs st => (match g with
    | .fn f => (match G.fn.lookup f with
      | some F => F (fr ++ [ρ]) vs st
      | none => .bad)
    | .clo k n => (match G.lam[k]?, (fr ++ [ρ])[n]? with
      | some L, some ρ' => L ρ' (fr ++ [ρ]) vs st
      | _, _ => .bad)
    | _ => .bad)
  | .lam k, _, st => .ok (.clo k fr.length) st
  | .bi b es, ρ, st => (evEs fr es ρ st).bind fun vs st => R.of (biop b (vs.map (rd st))) st
  | .mk b a, ρ, st => (evE fr a ρ st).bind fun x st => (R.of (biop b [rd st x]) st).bind fun v st => fresh true v st
  | .isin a ts, ρ, st => (evE fr a ρ st).bind fun x st => R.of ((isTys G.kit G.kitb (rd st x) ts).map .bl) st
  | .mt m a es, ρ, st => (evE fr a ρ st).bind fun x st => if mtOk m (rd st x) then (evEs fr es ρ st).bind fun vs st => mtop m x (rd st x) vs st else .bad
  | .fstr ps, ρ, st => (evEs fr ps ρ st).bind fun vs st => R.of ((texts? vs).map .str) st
  | .range1 a, ρ, st => (evE fr a ρ st).bind fun x st => (match x with
    | .int j => if big62? j then .ok (.lst (rangeL 0 j)) st else .bad
    | _ => .bad)
  | .range2 a b, ρ, st => (evE fr a ρ st).bind fun x st => (evE fr b ρ st).bind fun y st => (match x, y with
    | .int i, .int j => if big62? i && big62? j then .ok (.lst (rangeL i j)) st else .bad
    | _, _ => .bad)
  | .range3 a b c, ρ, st => (evE fr a ρ st).bind fun x st => (evE fr b ρ st).bind fun y st => (evE fr c ρ st).bind fun z st => (match x, y, z with
    | .int i, .int j, .int k => if k = -1 ∧ big62? i ∧ big62? j then .ok (.lst (rangeD i j)) st else .bad
    | _, _, _ => .bad)
  | .zip a b, ρ, st => (evE fr a ρ st).bind fun x st => (evE fr b ρ st).bind fun y st => (match row? (rd st x), row? (rd st y) with
    | some xs, some ys => .ok (.lst (zipL xs ys)) st
    | _, _ => .bad)
  | .enum a, ρ, st => (evE fr a ρ st).bind fun x st => (match row? (rd st x) with
    | some xs => .ok (.lst (enumL 0 xs)) st
    | none => .bad)
def evEs (fr : Fr) : List E → Sl → Sto → R Sto (List Va)
  | [], _, st => .ok [] st
  | e :: r, ρ, st => (evE fr e ρ st).bind fun v st => (evEs fr r ρ st).bind fun vs st => .ok (v :: vs) st
def evO (fr : Fr) : Option E → Sl → Sto → R Sto (Option Int)
  | none, _, st => .ok none st
  | some e, ρ, st => (evE fr e ρ st).bind fun v st => (match v with
    | .int i => .ok (some i) st
    | _ => .bad)
def evC (fr : Fr) : Option E → Sl → Sto → R Sto Bool
  | none, _, st => .ok true st
  | some e, ρ, st => (evE fr e ρ st).bind fun v st => R.of (truth v) st
end
abbrev RS := R (Sl × Sto) Fl
def lift {α : Type} (ρ : Sl) : R Sto α → R (Sl × Sto) α
  | .ok a st => .ok a (ρ, st)
  | .exc x st => .exc x (ρ, st)
  | .bad => .bad
@[simp] theorem lift_ok {α : Type} (ρ : Sl) (a : α) (st : Sto) : lift ρ (.ok a st) = .ok a (ρ, st) := rfl
@[simp] theorem lift_exc {α : Type} (ρ : Sl) (x : Va) (st : Sto) : lift ρ (.exc x st : R Sto α) = .exc x (ρ, st) := rfl
@[simp] theorem lift_bad {α : Type} (ρ : Sl) : lift ρ (.bad : R Sto α) = .bad := rfl
def setItemV (x i v : Va) (st : Sto) : Option Sto := match x, rd st x with
  | .ref n, .lst vs => (match i with
    | .int k => (seqI vs.length k).map fun j => st.set n (.lst (vs.set j v))
    | _ => none)
  | .ref n, .dct kvs => if isKey i && small kvs.length then some (st.set n (.dct (putK kvs i v))) else none
  | _, _ => none
mutual
def evTg (fr : Fr) : Tg → Va → Sl → Sto → R (Sl × Sto) Unit
  | .nm i, v, ρ, st => .ok () (ρ.set i (some v), st)
  | .ix a i, v, ρ, st => (lift ρ (evE G fr a ρ st)).bind fun x s => (lift ρ (evE G fr i ρ s.2)).bind fun k s => (match setItemV x k v s.2 with
    | some st' => .ok () (ρ, st')
    | none => .bad)
  | .at_ a f, v, ρ, st => (lift ρ (evE G fr a ρ st)).bind fun x s => (match x, rd s.2 x with
    | .ref n, .ins C fs => if hasF G C f && decide (fs.length < 900) then .ok () (ρ, s.2.set n (.ins C (putF fs f v))) else .bad
    | _, _ => .bad)
  | .tp ts, v, ρ, st => match row? (rd st v) with
    | some vs => if vs.length = ts.length then evTgs fr ts vs ρ st else .bad
    | none => .bad
def evTgs (fr : Fr) : List Tg → List Va → Sl → Sto → R (Sl × Sto) Unit
  | [], _, ρ, st => .ok () (ρ, st)
  | t :: r, vs, ρ, st => match vs with
    | v :: vs => (evTg fr t v ρ st).bind fun _ s => evTgs fr r vs s.1 s.2
    | [] => .bad
end
/-- a loop's turns -/
def forL (w : Va) (all : List Va) (f : Va → Sl → Sto → RS) : List Va → Sl → Sto → RS
  | [], ρ, st => if still st w all then .ok .nx (ρ, st) else .bad
  | x :: r, ρ, st => if still st w all then (f x ρ st).bind fun fl s => match fl with
    | .nx | .cnt => forL w all f r s.1 s.2
    | .brk => .ok .nx s
    | .ret v => .ok (.ret v) s
    else .bad
def whlL (c : Sl → Sto → R (Sl × Sto) Bool) (f : Sl → Sto → RS) : Nat → Sl → Sto → RS
  | 0, _, _ => .bad
  | n + 1, ρ, st => (c ρ st).bind fun t s => if t then (f s.1 s.2).bind fun fl s => match fl with
    | .nx | .cnt => whlL c f n s.1 s.2
    | .brk => .ok .nx s
    | .ret v => .ok (.ret v) s
    else .ok .nx s
variable (N : Nat)
mutual
def evS (fr : Fr) : S → Sl → Sto → RS
  | .asg t e, ρ, st => (lift ρ (evE G fr e ρ st)).bind fun v s => (evTg G fr t v s.1 s.2).bind fun _ s => .ok .nx s
  | .aug i op e, ρ, st => (R.of (ρ[i]?.bind id) (ρ, st)).bind fun x s => (lift ρ (evE G fr e ρ s.2)).bind fun y s => (match x with
    | .int _ | .str _ | .tup _ => (R.of (binop op x y) s).bind fun z s => .ok .nx (ρ.set i (some z), s.2)
    | _ => .bad)
  | .expr e, ρ, st => (lift ρ (evE G fr e ρ st)).bind fun _ s => .ok .nx s
  | .ret e, ρ, st => (lift ρ (evE G fr e ρ st)).bind fun v s => .ok (.ret v) s
  | .retN, ρ, st => .ok (.ret .non) (ρ, st)
  | .ifs c a b, ρ, st => (lift ρ (evE G fr c ρ st)).bind fun x s => (R.of (truth x) s).bind fun t s => if t then evSs fr a s.1 s.2 else evSs fr b s.1 s.2
  | .fors tg one it b, ρ, st => (lift ρ (evE G fr it ρ st)).bind fun w s => match row? (rd s.2 w) with
    | none => .bad
    | some xs => forL w xs (fun x ρ st => match bindTg st ρ tg one x with
      | none => .bad
      | some ρ1 => evSs fr b ρ1 st) xs s.1 s.2
  | .whl c b, ρ, st => whlL (fun ρ st => (lift ρ (evE G fr c ρ st)).bind fun x s => R.of (truth x) s) (fun ρ st => evSs fr b ρ st) N ρ st
  | .rais C es, ρ, st => (lift ρ (evEs G fr es ρ st)).bind fun vs s => match G.fn.lookup C with
    | some F => (lift ρ (F (fr ++ [ρ]) vs s.2)).bind fun x s => (match x with
      | .exc _ _ => .exc x s
      | _ => .bad)
    | none => .bad
  | .try_ b hs, ρ, st => (match evSs fr b ρ st with
    | .exc (.exc C fs) s => evH fr (.exc C fs) C hs s.1 s.2
    | r => r)
  | .fin b f, ρ, st => (match evSs fr b ρ st with
    | .ok fl s => (evSs fr f s.1 s.2).bind fun fl' s' => (match fl' with
      | .nx => .ok fl s'
      | _ => .ok fl' s')
    | .exc x s => (evSs fr f s.1 s.2).bind fun fl' s' => (match fl' with
      | .nx => .exc x s'
      | _ => .ok fl' s')
    | .bad => .bad)
  | .brk, ρ, st => .ok .brk (ρ, st)
  | .cnt, ρ, st => .ok .cnt (ρ, st)
  | .pass, ρ, st => .ok .nx (ρ, st)
def evSs (fr : Fr) : List S → Sl → Sto → RS
  | [], ρ, st => .ok .nx (ρ, st)
  | a :: r, ρ, st => (evS fr a ρ st).bind fun fl s => match fl with
    | .nx => evSs fr r s.1 s.2
    | fl => .ok fl s
def evH (fr : Fr) (x : Va) (C : String) : List (String × Option Nat × List S) → Sl → Sto → RS
  | [], ρ, st => .exc x (ρ, st)
  | (D, o, b) :: r, ρ, st => if D = C then (match o with
      | some i => (match evSs fr b (ρ.set i (some x)) st with
        | .ok fl s => .ok fl (s.1.set i none, s.2)
        | .exc y s => .exc y (s.1.set i none, s.2)
        | .bad => .bad)
      | none => evSs fr b ρ st)
    else evH fr x C r ρ st
end
end
end M
namespace M
noncomputable section
def alive : Ob → Bool
  | .dead => false
  | _ => true
/-! ### a def's run -/
mutual
/-- no object from n on is named -/
def low (n : Nat) : Va → Bool
  | .ref m => decide (m < n)
  | .tup vs | .lst vs | .lck vs => lows n vs
  | .dct kvs => lowk n kvs
  | .ins _ fs | .exc _ fs => lowf n fs
  | .clo _ _ => false
  | _ => true
def lows (n : Nat) : List Va → Bool
  | [] => true
  | v :: r => low n v && lows n r
def lowk (n : Nat) : List (Va × Va) → Bool
  | [] => true
  | (k, v) :: r => low n k && low n v && lowk n r
def lowf (n : Nat) : List (String × Va) → Bool
  | [] => true
  | (_, v) :: r => low n v && lowf n r
end
def lowO (n : Nat) : Ob → Bool
  | .lst vs => lows n vs
  | .dct kvs => lowk n kvs
  | .ins _ fs => lowf n fs
  | .dead => true
/-- an own object handed out by value -/
def fz1 (n : Nat) (st : Sto) (v : Va) : Option Va := match v with
  | .ref m => if m < n then some v else (match rd st v with
    | .ref _ => none
    | c => if low n c then some c else none)
  | v => if low n v then some v else none
def fzs (n : Nat) (st : Sto) : List Va → Option (List Va)
  | [] => some []
  | v :: r => (fz1 n st v).bind fun x => (fzs n st r).map (x :: ·)
def fz (n : Nat) (st : Sto) (v : Va) : Option Va := match v with
  | .tup vs => (fzs n st vs).map .tup
  | v => fz1 n st v
/-! a def's end: pure: its own objects are gone, what it hands out is by value -/
/-- the callers' objects are as they were, or name no object of this run -/
def keepsV (st0 st : Sto) : Prop := st0.length ≤ st.length ∧ ∀ i, i < st0.length → st[i]? = st0[i]? ∨ ∃ o, st[i]? = some o ∧ alive o = true ∧ lowO st0.length o = true
instance {st0 st : Sto} : Decidable (keepsV st0 st) := Classical.propDecidable _
def exitV (md : Bool) (st0 : Sto) (v : Va) (st : Sto) : R Sto Va := match md with
  | true => if keepsV st0 st then R.of (fz st0.length st v) (st.take st0.length) else .bad
  | false => .ok v st
def runF (G : Pg) (N : Nat) (md : Bool) (ns : Nat) (np : Nat) (body : List S) : Fs := fun fr as st =>
  if as.length = np then (match evSs G N fr body (as.map some ++ List.replicate (ns - np) none) st with
    | .ok (.ret v) s => exitV md st v s.2
    | .ok .nx s => exitV md st .non s.2
    | .ok _ _ => .bad
    | .exc x s => if low st.length x = true ∧ keepsV st s.2 then .exc x (s.2.take st.length) else .bad
    | .bad => .bad) else .bad
end
end M
end
section
set_option Elab.async false
set_option linter.all false
/-! Sem3: how values and stores lie in the heap. -/
namespace M
open PySem PySem.Spec PyProof.Rows L2

/-- what is known of the world: the written part, where each def and class stands, the exceptions that are held -/
structure Wl where
  K : PySem.W.Frag
  adr : String → Addr
  ex : Addr → Addr → String → Prop := fun _ _ _ => False
abbrev cS (s : List Nat) : Str := ⟨s.toArray⟩
def keyV : Va → Option Key
  | .int i => some (.inl i)
  | .str s => some (.inr (cS s))
  | _ => none
/-- a list, a tuple of the written part -/
def WrL (K : PySem.W.Frag) (a : Addr) (xs : List V) : Prop := ∃ (o : Obj) (its : Array Value) (n : Nat), K.lookup a = some o ∧ o.cls = .type "list" ∧ o.dict = none ∧ o.data = .seq its n ∧ its.size ≤ sizeLine ∧ Vals xs its.toList
def WrT (K : PySem.W.Frag) (a : Addr) (xs : List V) : Prop := ∃ (o : Obj) (its : Array Value) (n : Nat), K.lookup a = some o ∧ o.cls = .type "tuple" ∧ o.data = .seq its n ∧ its.size ≤ sizeLine ∧ Vals xs its.toList
/-- a row that stands still: tracked and not among T's, or written -/
def FzL (W : Wl) (T : Addr → Prop) (H : Hp) (a : Addr) (us : List V) : Prop := (Rd H a (.lst us) ∧ ¬ T a) ∨ WrL W.K a us
def FzT (W : Wl) (T : Addr → Prop) (H : Hp) (a : Addr) (us : List V) : Prop := (Rd H a (.tup us) ∧ ¬ T a) ∨ WrT W.K a us
theorem FzL.sq {W : Wl} {T : Addr → Prop} {H : Hp} {a : Addr} {us : List V} (h : FzL W T H a us) : SqL W.K H a us := h.elim (fun h => .inl h.1) .inr
theorem FzT.sq {W : Wl} {T : Addr → Prop} {H : Hp} {a : Addr} {us : List V} (h : FzT W T H a us) : SqT W.K H a us := h.elim (fun h => .inl h.1) .inr
mutual
def Rep (W : Wl) (T : Addr → Prop) (η : List Addr) (H : Hp) : Va → V → Prop
  | .non, v => v = .non
  | .bl b, v => v = .bl b
  | .int i, v => v = .int i
  | .str s, v => v = .str (cS s)
  | .tup vs, v => ∃ a us, v = .ref a ∧ FzT W T H a us ∧ Reps W T η H vs us
  | .lst vs, v => ∃ a us, v = .ref a ∧ (H a = some (.lst us) ∧ ¬ T a) ∧ Reps W T η H vs us
  | .lck vs, v => ∃ a us, v = .ref a ∧ FzL W T H a us ∧ Reps W T η H vs us
  | .dct kvs, v => ∃ a us, v = .ref a ∧ ¬ T a ∧ H a = some (.dK us) ∧ RepK W T η H kvs us
  | .ins C fs, v => ∃ a dx us, v = .ref a ∧ ¬ T a ∧ H a = some (.ins (W.adr C) dx us) ∧ RepF W T η H fs us
  | .ref n, v => ∃ a, η[n]? = some a ∧ v = .ref a
  | .fn f, v => v = .ref (W.adr f)
  | .clo _ _, _ => False
  | .exc C fs, v => ∃ a d us, v = .ref a ∧ W.ex a d C ∧ ¬ T d ∧ H d = some (.xd us) ∧ RepF W T η H fs us
def Reps (W : Wl) (T : Addr → Prop) (η : List Addr) (H : Hp) : List Va → List V → Prop
  | [], us => us = []
  | v :: r, us => ∃ u us', us = u :: us' ∧ Rep W T η H v u ∧ Reps W T η H r us'
def RepK (W : Wl) (T : Addr → Prop) (η : List Addr) (H : Hp) : List (Va × Va) → List (Key × V) → Prop
  | [], us => us = []
  | (k, v) :: r, us => ∃ c u us', us = (c, u) :: us' ∧ keyV k = some c ∧ Rep W T η H v u ∧ RepK W T η H r us'
def RepF (W : Wl) (T : Addr → Prop) (η : List Addr) (H : Hp) : List (String × Va) → List (Str × V) → Prop
  | [], us => us = []
  | (f, v) :: r, us => ∃ u us', us = (sS f, u) :: us' ∧ Rep W T η H v u ∧ RepF W T η H r us'
end
section
variable {W : Wl} {T T' : Addr → Prop} {η η' : List Addr} {H H' : Hp}
theorem FzL.mono (hk : ∀ a o, H a = some o → ¬ T a → H' a = some o ∧ ¬ T' a) {a : Addr} {us : List V} (h : FzL W T H a us) : FzL W T' H' a us := by
  rcases h with ⟨h, n⟩ | h
  · rcases h with h | ⟨o, h⟩
    · exact .inl ⟨.inl (hk a _ h n).1, (hk a _ h n).2⟩
    · exact .inl ⟨.inr ⟨o, (hk a _ h n).1⟩, (hk a _ h n).2⟩
  · exact .inr h
theorem FzT.mono (hk : ∀ a o, H a = some o → ¬ T a → H' a = some o ∧ ¬ T' a) {a : Addr} {us : List V} (h : FzT W T H a us) : FzT W T' H' a us := by
  rcases h with ⟨h, n⟩ | h
  · rcases h with h | ⟨o, h⟩
    · exact .inl ⟨.inl (hk a _ h n).1, (hk a _ h n).2⟩
    · exact .inl ⟨.inr ⟨o, (hk a _ h n).1⟩, (hk a _ h n).2⟩
  · exact .inr h
mutual
theorem Rep.mono (hi : ∃ more, η' = η ++ more) (hk : ∀ a o, H a = some o → ¬ T a → H' a = some o ∧ ¬ T' a) : ∀ (v : Va) (u : V), Rep W T η H v u → Rep W T' η' H' v u
  | .non, _, h | .bl _, _, h | .int _, _, h | .str _, _, h | .fn _, _, h => by simp only [Rep] at h ⊢; exact h
  | .clo _ _, _, h => by simp only [Rep] at h
  | .ref n, _, h => by
    simp only [Rep] at h ⊢
    obtain ⟨a, e, r⟩ := h
    obtain ⟨m, rfl⟩ := hi
    exact ⟨a, by rw [List.getElem?_append_left (List.getElem?_eq_some_iff.mp e).1]; exact e, r⟩
  | .tup vs, _, h => by
    simp only [Rep] at h ⊢
    obtain ⟨a, us, e, f, r⟩ := h
    exact ⟨a, us, e, f.mono hk, Reps.mono hi hk vs us r⟩
  | .lst vs, _, h => by
    simp only [Rep] at h ⊢
    obtain ⟨a, us, e, f, r⟩ := h
    exact ⟨a, us, e, hk a _ f.1 f.2, Reps.mono hi hk vs us r⟩
  | .lck vs, _, h => by
    simp only [Rep] at h ⊢
    obtain ⟨a, us, e, f, r⟩ := h
    exact ⟨a, us, e, f.mono hk, Reps.mono hi hk vs us r⟩
  | .dct kvs, _, h => by
    simp only [Rep] at h ⊢
    obtain ⟨a, us, e, n, h, r⟩ := h
    exact ⟨a, us, e, (hk a _ h n).2, (hk a _ h n).1, RepK.mono hi hk kvs us r⟩
  | .ins C fs, _, h => by
    simp only [Rep] at h ⊢
    obtain ⟨a, dx, us, e, n, h, r⟩ := h
    exact ⟨a, dx, us, e, (hk a _ h n).2, (hk a _ h n).1, RepF.mono hi hk fs us r⟩
  | .exc C fs, _, h => by
    simp only [Rep] at h ⊢
    obtain ⟨a, d, us, e, x, n, h, r⟩ := h
    exact ⟨a, d, us, e, x, (hk d _ h n).2, (hk d _ h n).1, RepF.mono hi hk fs us r⟩
theorem Reps.mono (hi : ∃ more, η' = η ++ more) (hk : ∀ a o, H a = some o → ¬ T a → H' a = some o ∧ ¬ T' a) : ∀ (vs : List Va) (us : List V), Reps W T η H vs us → Reps W T' η' H' vs us
  | [], _, h => by simp only [Reps] at h ⊢; exact h
  | v :: r, _, h => by
    simp only [Reps] at h ⊢
    obtain ⟨u, us', e, h1, h2⟩ := h
    exact ⟨u, us', e, Rep.mono hi hk v u h1, Reps.mono hi hk r us' h2⟩
theorem RepK.mono (hi : ∃ more, η' = η ++ more) (hk : ∀ a o, H a = some o → ¬ T a → H' a = some o ∧ ¬ T' a) : ∀ (vs : List (Va × Va)) (us : List (Key × V)), RepK W T η H vs us → RepK W T' η' H' vs us
  | [], _, h => by simp only [RepK] at h ⊢; exact h
  | (k, v) :: r, _, h => by
    simp only [RepK] at h ⊢
    obtain ⟨c, u, us', e, h0, h1, h2⟩ := h
    exact ⟨c, u, us', e, h0, Rep.mono hi hk v u h1, RepK.mono hi hk r us' h2⟩
theorem RepF.mono (hi : ∃ more, η' = η ++ more) (hk : ∀ a o, H a = some o → ¬ T a → H' a = some o ∧ ¬ T' a) : ∀ (vs : List (String × Va)) (us : List (Str × V)), RepF W T η H vs us → RepF W T' η' H' vs us
  | [], _, h => by simp only [RepF] at h ⊢; exact h
  | (f, v) :: r, _, h => by
    simp only [RepF] at h ⊢
    obtain ⟨u, us', e, h1, h2⟩ := h
    exact ⟨u, us', e, Rep.mono hi hk v u h1, RepF.mono hi hk r us' h2⟩
end
end
/-- what lies at a living object's address -/
def ObR (W : Wl) (T : Addr → Prop) (η : List Addr) (H : Hp) (o : Ob) (a : Addr) : Prop := match o with
  | .lst vs => ∃ us, H a = some (.lst us) ∧ Reps W T η H vs us
  | .dct kvs => ∃ us, H a = some (.dK us) ∧ RepK W T η H kvs us
  | .ins C fs => ∃ dx us, H a = some (.ins (W.adr C) dx us) ∧ RepF W T η H fs us
  | .dead => True
/-- the living objects' addresses -/
def Lv (η : List Addr) (st : Sto) (a : Addr) : Prop := ∃ (n : Nat) (o : Ob), st[n]? = some o ∧ alive o = true ∧ η[n]? = some a
def Tb (hid : Addr → Prop) (η : List Addr) (st : Sto) (a : Addr) : Prop := hid a ∨ Lv η st a
/-- the store lies in the heap -/
structure Rel (W : Wl) (hid : Addr → Prop) (η : List Addr) (st : Sto) (H : Hp) : Prop where
  len : η.length = st.length
  obs : ∀ (n : Nat) (o : Ob) (a : Addr), st[n]? = some o → η[n]? = some a → ObR W (Tb hid η st) η H o a
  inj : ∀ (m n : Nat) (o o' : Ob) (a : Addr), st[m]? = some o → st[n]? = some o' → alive o = true → alive o' = true → η[m]? = some a → η[n]? = some a → m = n
  hd : ∀ a, hid a → H a ≠ none
  sep : ∀ a, hid a → ¬ Lv η st a
/-- from one state to another: what stands still goes on standing still -/
structure Gr (η : List Addr) (st : Sto) (H : Hp) (η' : List Addr) (st' : Sto) (H' : Hp) : Prop where
  ids : ∃ more, η' = η ++ more
  keep : ∀ a o, H a = some o → ¬ Lv η st a → H' a = some o ∧ ¬ Lv η' st' a
section
variable {W : Wl} {hid : Addr → Prop} {η η' η'' : List Addr} {st st' st'' : Sto} {H H' H'' : Hp}
theorem Gr.refl : Gr η st H η st H := ⟨⟨[], by simp⟩, fun a o h n => ⟨h, n⟩⟩
theorem Gr.trans (g : Gr η st H η' st' H') (g' : Gr η' st' H' η'' st'' H'') : Gr η st H η'' st'' H'' := by
  obtain ⟨⟨m, rfl⟩, k⟩ := g
  obtain ⟨⟨m', rfl⟩, k'⟩ := g'
  exact ⟨⟨m ++ m', by simp⟩, fun a o h n => k' a o (k a o h n).1 (k a o h n).2⟩
theorem Gr.hk (g : Gr η st H η' st' H') : ∀ a o, H a = some o → ¬ Tb hid η st a → H' a = some o ∧ ¬ Tb hid η' st' a := fun a o h n => by
  have k := g.keep a o h fun z => n (.inr z)
  exact ⟨k.1, fun z => z.elim (fun z => n (.inl z)) k.2⟩
theorem Rep.gr (g : Gr η st H η' st' H') {v : Va} {u : V} (h : Rep W (Tb hid η st) η H v u) : Rep W (Tb hid η' st') η' H' v u := Rep.mono g.ids g.hk v u h
theorem Reps.gr (g : Gr η st H η' st' H') {v : List Va} {u : List V} (h : Reps W (Tb hid η st) η H v u) : Reps W (Tb hid η' st') η' H' v u := Reps.mono g.ids g.hk v u h
/-- only the heap grows -/
theorem Gr.laid {a : Addr} {o : HO} (h : H a = none) : Gr η st H η st (upd H a o) := ⟨⟨[], by simp⟩, fun b u e n => ⟨by rw [upd_ne (ne_of_none e h)]; exact e, n⟩⟩
theorem ObR.mono {T T' : Addr → Prop} (hi : ∃ more, η' = η ++ more) (hk : ∀ a o, H a = some o → ¬ T a → H' a = some o ∧ ¬ T' a) {o : Ob} {a : Addr} (ha : ∀ u, H a = some u → H' a = some u) (h : ObR W T η H o a) : ObR W T' η' H' o a := by
  cases o with
  | lst vs => obtain ⟨us, h, r⟩ := h; exact ⟨us, ha _ h, Reps.mono hi hk _ _ r⟩
  | dct kvs => obtain ⟨us, h, r⟩ := h; exact ⟨us, ha _ h, RepK.mono hi hk _ _ r⟩
  | ins C fs => obtain ⟨dx, us, h, r⟩ := h; exact ⟨dx, us, ha _ h, RepF.mono hi hk _ _ r⟩
  | dead => trivial
/-- a new object that stands still -/
theorem Rel.laid (r : Rel W hid η st H) {a : Addr} {o : HO} (h : H a = none) : Rel W hid η st (upd H a o) := by
  refine ⟨r.len, fun n u b e1 e2 => ?_, r.inj, fun b hb z => ?_, r.sep⟩
  · exact (r.obs n u b e1 e2).mono ⟨[], by simp⟩ (fun c w e nt => ⟨by rw [upd_ne (ne_of_none e h)]; exact e, nt⟩) fun w e => by rw [upd_ne (ne_of_none e h)]; exact e
  · by_cases q : b = a
    · subst q; rw [upd_same] at z; cases z
    · rw [upd_ne q] at z; exact r.hd b hb z
theorem ObR.there {T : Addr → Prop} {o : Ob} {a : Addr} (q : ObR W T η H o a) (h2 : alive o = true) : ∃ u, H a = some u ∧ Mut (some u) := by
  cases o with
  | lst vs => obtain ⟨us, h, _⟩ := q; exact ⟨_, h, trivial⟩
  | dct kvs => obtain ⟨us, h, _⟩ := q; exact ⟨_, h, trivial⟩
  | ins C fs => obtain ⟨dx, us, h, _⟩ := q; exact ⟨_, h, trivial⟩
  | dead => cases h2
theorem Lv.there (r : Rel W hid η st H) {a : Addr} (h : Lv η st a) : ∃ o, H a = some o := by
  obtain ⟨n, o, h1, h2, h3⟩ := h
  obtain ⟨u, e, _⟩ := (r.obs n o a h1 h3).there h2
  exact ⟨u, e⟩
theorem Rel.free (r : Rel W hid η st H) {a : Addr} (h : H a = none) : ¬ Tb hid η st a := fun z => by
  rcases z with z | z
  · exact r.hd a z h
  · obtain ⟨o, e⟩ := z.there r
    rw [h] at e; cases e
theorem Lv.snoc {a p : Addr} {o : Ob} (hl : η.length = st.length) : Lv (η ++ [p]) (st ++ [o]) a ↔ (Lv η st a ∨ (alive o = true ∧ a = p)) := by
  constructor
  · rintro ⟨n, u, h1, h2, h3⟩
    by_cases hn : n < st.length
    · rw [List.getElem?_append_left hn] at h1
      rw [List.getElem?_append_left (by omega)] at h3
      exact .inl ⟨n, u, h1, h2, h3⟩
    · have e : n = st.length := by
        have := (List.getElem?_eq_some_iff.mp h1).1
        simp at this
        omega
      subst e
      simp at h1
      rw [← hl] at h3
      simp at h3
      subst h1
      exact .inr ⟨h2, h3.symm⟩
  · rintro (⟨n, u, h1, h2, h3⟩ | ⟨h1, rfl⟩)
    · exact ⟨n, u, by rw [List.getElem?_append_left (List.getElem?_eq_some_iff.mp h1).1]; exact h1, h2, by rw [List.getElem?_append_left (List.getElem?_eq_some_iff.mp h3).1]; exact h3⟩
    · exact ⟨st.length, o, by simp, h1, by rw [← hl]; simp⟩
/-- p is hidden too -/
def hid1 (hid : Addr → Prop) (p : Addr) (a : Addr) : Prop := hid a ∨ a = p
theorem Rel.hide (r : Rel W hid η st H) {p : Addr} {o : HO} (h : H p = none) : Rel W (hid1 hid p) η st (upd H p o) := by
  refine ⟨r.len, fun n u b e1 e2 => ?_, r.inj, fun b hb z => ?_, fun a ha l => ?_⟩
  · refine (r.obs n u b e1 e2).mono ⟨[], by simp⟩ (fun c w e nt => ⟨by rw [upd_ne (ne_of_none e h)]; exact e, fun z => ?_⟩) fun w e => by rw [upd_ne (ne_of_none e h)]; exact e
    rcases z with (z | z) | z
    · exact nt (.inl z)
    · exact ne_of_none e h z
    · exact nt (.inr z)
  · by_cases q : b = p
    · subst q; rw [upd_same] at z; cases z
    · rw [upd_ne q] at z
      rcases hb with hb | hb
      · exact r.hd b hb z
      · exact q hb
  · rcases ha with ha | ha
    · exact r.sep a ha l
    · obtain ⟨u, e⟩ := l.there r
      rw [ha, h] at e; cases e
theorem Rep.hide {p : Addr} {o : HO} (h : H p = none) {v : Va} {u : V} (x : Rep W (Tb hid η st) η H v u) : Rep W (Tb (hid1 hid p) η st) η (upd H p o) v u :=
  Rep.mono ⟨[], by simp⟩ (fun c w e nt => ⟨by rw [upd_ne (ne_of_none e h)]; exact e, fun z => by
    rcases z with (z | z) | z
    · exact nt (.inl z)
    · exact ne_of_none e h z
    · exact nt (.inr z)⟩) v u x
/-- hidden no more, it stands still -/
theorem Rel.unhide {p : Addr} (r : Rel W (hid1 hid p) η st H) : Rel W hid η st H := by
  refine ⟨r.len, fun n u b e1 e2 => ?_, r.inj, fun b hb => r.hd b (.inl hb), fun a ha => r.sep a (.inl ha)⟩
  exact (r.obs n u b e1 e2).mono ⟨[], by simp⟩ (fun c w e nt => ⟨e, fun z => nt (z.elim (fun z => .inl (.inl z)) .inr)⟩) fun w e => e
theorem Rep.unhide {p : Addr} {v : Va} {u : V} (x : Rep W (Tb (hid1 hid p) η st) η H v u) : Rep W (Tb hid η st) η H v u :=
  Rep.mono ⟨[], by simp⟩ (fun c w e nt => ⟨e, fun z => nt (z.elim (fun z => .inl (.inl z)) .inr)⟩) v u x
theorem Reps.unhide {p : Addr} {v : List Va} {u : List V} (x : Reps W (Tb (hid1 hid p) η st) η H v u) : Reps W (Tb hid η st) η H v u :=
  Reps.mono ⟨[], by simp⟩ (fun c w e nt => ⟨e, fun z => nt (z.elim (fun z => .inl (.inl z)) .inr)⟩) v u x
/-- hidden no more, it is the store's -/
theorem Rel.shown {p : Addr} {ob : Ob} (r : Rel W (hid1 hid p) η st H) (np : ¬ hid p) (al : alive ob = true) (q : ObR W (Tb (hid1 hid p) η st) η H ob p) : Rel W hid (η ++ [p]) (st ++ [ob]) H := by
  have hk : ∀ (a : Addr) (o : HO), H a = some o → ¬ Tb (hid1 hid p) η st a → H a = some o ∧ ¬ Tb hid (η ++ [p]) (st ++ [ob]) a := fun a o e nt => ⟨e, fun z => nt (by
    rcases z with z | z
    · exact .inl (.inl z)
    · rcases (Lv.snoc r.len).mp z with z | ⟨_, z⟩
      · exact .inr z
      · exact .inl (.inr z))⟩
  have cs : ∀ (n : Nat) (u : Ob) (a : Addr), (st ++ [ob])[n]? = some u → (η ++ [p])[n]? = some a → (st[n]? = some u ∧ η[n]? = some a) ∨ (n = st.length ∧ u = ob ∧ a = p) := fun n u a e1 e2 => by
    by_cases hn : n < st.length
    · rw [List.getElem?_append_left hn] at e1
      rw [List.getElem?_append_left (by have := r.len; omega)] at e2
      exact .inl ⟨e1, e2⟩
    · have e : n = st.length := by
        have := (List.getElem?_eq_some_iff.mp e1).1
        simp at this
        omega
      subst e
      simp at e1
      rw [← r.len] at e2
      simp at e2
      exact .inr ⟨rfl, e1.symm, e2.symm⟩
  refine ⟨by simp [r.len], fun n u a e1 e2 => ?_, fun m n u u' a e1 e2 a1 a2 e3 e4 => ?_, fun b hb => r.hd b (.inl hb), fun b hb z => ?_⟩
  · rcases cs n u a e1 e2 with ⟨e1, e2⟩ | ⟨_, rfl, rfl⟩
    · exact (r.obs n u a e1 e2).mono ⟨[p], rfl⟩ hk fun w e => e
    · exact q.mono ⟨[a], rfl⟩ hk fun w e => e
  · rcases cs m u a e1 e3 with ⟨f1, f2⟩ | ⟨rfl, rfl, rfl⟩
    · rcases cs n u' a e2 e4 with ⟨g1, g2⟩ | ⟨rfl, rfl, rfl⟩
      · exact r.inj m n u u' a f1 g1 a1 a2 f2 g2
      · exact absurd ⟨m, u, f1, a1, f2⟩ (r.sep a (.inr rfl))
    · rcases cs n u' a e2 e4 with ⟨g1, g2⟩ | ⟨rfl, _, _⟩
      · exact absurd ⟨n, u', g1, a2, g2⟩ (r.sep a (.inr rfl))
      · rfl
  · rcases (Lv.snoc r.len).mp z with z | ⟨_, z⟩
    · exact r.sep b (.inl hb) z
    · exact np (z ▸ hb)
theorem Gr.shown {p : Addr} {ob : Ob} (hl : η'.length = st'.length) (h : H p = none) (g : Gr η st H η' st' H') : Gr η st H (η' ++ [p]) (st' ++ [ob]) H' := by
  obtain ⟨⟨m, e⟩, k⟩ := g
  refine ⟨⟨m ++ [p], by rw [e]; simp⟩, fun a o e n => ⟨(k a o e n).1, fun z => ?_⟩⟩
  rcases (Lv.snoc hl).mp z with z | ⟨_, z⟩
  · exact (k a o e n).2 z
  · exact ne_of_none e h z
/-- a new living object at once -/
theorem Rel.alloc (r : Rel W hid η st H) {p : Addr} {o : HO} {ob : Ob} (h : H p = none) (al : alive ob = true) (q : ObR W (Tb (hid1 hid p) η st) η (upd H p o) ob p) :
    Rel W hid (η ++ [p]) (st ++ [ob]) (upd H p o) ∧ Gr η st H (η ++ [p]) (st ++ [ob]) (upd H p o) :=
  ⟨(r.hide h).shown (fun z => r.hd p z h) al q, (Gr.laid h).shown r.len h⟩
theorem ne_lv {a b : Addr} (l : Lv η st a) (n : ¬ Lv η st b) : b ≠ a := fun z => by subst z; exact n l
theorem ne_tb {a b : Addr} (l : Lv η st a) (n : ¬ Tb hid η st b) : b ≠ a := ne_lv l fun z => n (.inr z)
theorem Lv.set {n : Nat} {o ob : Ob} (e : st[n]? = some o) (a1 : alive o = true) (a2 : alive ob = true) {a : Addr} : Lv η (st.set n ob) a ↔ Lv η st a := by
  have hn := (List.getElem?_eq_some_iff.mp e).1
  constructor
  · rintro ⟨m, u, h1, h2, h3⟩
    by_cases q : m = n
    · subst q; exact ⟨m, o, e, a1, h3⟩
    · rw [List.getElem?_set_ne (Ne.symm q)] at h1
      exact ⟨m, u, h1, h2, h3⟩
  · rintro ⟨m, u, h1, h2, h3⟩
    by_cases q : m = n
    · subst q; exact ⟨m, ob, by rw [List.getElem?_set_self hn], a2, h3⟩
    · exact ⟨m, u, by rw [List.getElem?_set_ne (Ne.symm q)]; exact h1, h2, h3⟩
/-- a living object is written -/
theorem Rel.write (r : Rel W hid η st H) {n : Nat} {o ob : Ob} {a : Addr} {ho : HO} (e : st[n]? = some o) (ea : η[n]? = some a) (a1 : alive o = true) (a2 : alive ob = true)
    (q : ObR W (Tb hid η st) η (upd H a ho) ob a) : Rel W hid η (st.set n ob) (upd H a ho) ∧ Gr η st H η (st.set n ob) (upd H a ho) := by
  have la : Lv η st a := ⟨n, o, e, a1, ea⟩
  have te : ∀ b, Tb hid η (st.set n ob) b ↔ Tb hid η st b := fun b => by unfold Tb; rw [Lv.set e a1 a2]
  have tf : Tb hid η (st.set n ob) = Tb hid η st := funext fun b => propext (te b)
  have hk : ∀ (b : Addr) (w : HO), H b = some w → ¬ Tb hid η st b → upd H a ho b = some w ∧ ¬ Tb hid η st b := fun b w h nt => ⟨by rw [upd_ne (ne_tb la nt)]; exact h, nt⟩
  refine ⟨⟨by simp [r.len], fun m u b e1 e2 => ?_, fun i j u u' b e1 e2 b1 b2 e3 e4 => ?_, fun b hb z => ?_, fun b hb z => r.sep b hb ((Lv.set e a1 a2).mp z)⟩, ⟨⟨[], by simp⟩, fun b w h nl => ⟨by rw [upd_ne (ne_lv la nl)]; exact h, fun z => nl ((Lv.set e a1 a2).mp z)⟩⟩⟩
  · rw [tf]
    by_cases qm : m = n
    · subst qm
      rw [List.getElem?_set_self (List.getElem?_eq_some_iff.mp e).1] at e1
      rw [ea] at e2
      cases e1; cases e2
      exact q
    · rw [List.getElem?_set_ne (Ne.symm qm)] at e1
      cases ha : alive u with
      | false => cases u <;> first | trivial | cases ha
      | true =>
        refine (r.obs m u b e1 e2).mono ⟨[], by simp⟩ hk fun w h => ?_
        rw [upd_ne (fun z => qm (r.inj m n u o b e1 e ha a1 e2 (by rw [z]; exact ea)))]; exact h
  · have back : ∀ (i : Nat) (u : Ob), (st.set n ob)[i]? = some u → alive u = true → ∃ v, st[i]? = some v ∧ alive v = true := fun i u h hu => by
      by_cases qm : i = n
      · subst qm; exact ⟨o, e, a1⟩
      · rw [List.getElem?_set_ne (Ne.symm qm)] at h; exact ⟨u, h, hu⟩
    obtain ⟨v, f1, f2⟩ := back i u e1 b1
    obtain ⟨v', g1, g2⟩ := back j u' e2 b2
    exact r.inj i j v v' b f1 g1 f2 g2 e3 e4
  · by_cases qb : b = a
    · subst qb; rw [upd_same] at z; cases z
    · rw [upd_ne qb] at z; exact r.hd b hb z
/-- for a written object's content -/
theorem Rep.upd_lv {a : Addr} {ho : HO} (la : Lv η st a) {v : Va} {u : V} (x : Rep W (Tb hid η st) η H v u) : Rep W (Tb hid η st) η (upd H a ho) v u :=
  Rep.mono ⟨[], by simp⟩ (fun b w h nt => ⟨by rw [upd_ne (ne_tb la nt)]; exact h, nt⟩) v u x
theorem Reps.upd_lv {a : Addr} {ho : HO} (la : Lv η st a) {v : List Va} {u : List V} (x : Reps W (Tb hid η st) η H v u) : Reps W (Tb hid η st) η (upd H a ho) v u :=
  Reps.mono ⟨[], by simp⟩ (fun b w h nt => ⟨by rw [upd_ne (ne_tb la nt)]; exact h, nt⟩) v u x
theorem RepK.upd_lv {a : Addr} {ho : HO} (la : Lv η st a) {v : List (Va × Va)} {u : List (Key × V)} (x : RepK W (Tb hid η st) η H v u) : RepK W (Tb hid η st) η (upd H a ho) v u :=
  RepK.mono ⟨[], by simp⟩ (fun b w h nt => ⟨by rw [upd_ne (ne_tb la nt)]; exact h, nt⟩) v u x
theorem RepF.upd_lv {a : Addr} {ho : HO} (la : Lv η st a) {v : List (String × Va)} {u : List (Str × V)} (x : RepF W (Tb hid η st) η H v u) : RepF W (Tb hid η st) η (upd H a ho) v u :=
  RepF.mono ⟨[], by simp⟩ (fun b w h nt => ⟨by rw [upd_ne (ne_tb la nt)]; exact h, nt⟩) v u x
end
end M
end
section
set_option Elab.async false
set_option linter.all false
set_option maxRecDepth 10000
set_option autoImplicit false
/-! Sem4: what a reading of the language asks; operators. -/
namespace M
open PySem PySem.Spec PyProof.Rows L2

structure EnvR (W : Wl) (T : Addr → Prop) (η : List Addr) (H : Hp) (ρ : Sl) (σ : L2.St) : Prop where
  len : ρ.length = σ.length
  get : ∀ (i : Nat) (v : Va), ρ[i]? = some (some v) → ∃ u, σ[i]? = some (some u) ∧ Rep W T η H v u
/-- the world, the tables, the frames around, what is wished of an exception -/
structure Cfg where
  W : Wl
  G : Pg
  fr : Fr
  wx : WX
section
variable (C : Cfg) {α β : Type}
def Res (hid : Addr → Prop) (η : List Addr) (st : Sto) (H : Hp) (σ : L2.St) (r : R Sto α) (k : α → List Addr → Sto → Hp → Prop) : Prop := match r with
  | .ok a st' => ∀ η' H', Rel C.W hid η' st' H' → Gr η st H η' st' H' → k a η' st' H'
  | .exc x st' => (match x with
    | .exc D fs => ∀ d us η' H', Rel C.W hid η' st' H' → Gr η st H η' st' H' → H' d = some (.xd us) → ¬ Tb hid η' st' d → RepF C.W (Tb hid η' st') η' H' fs us → C.wx (.ref (C.W.adr D)) (some d) σ H'
    | _ => False)
  | .bad => False
variable {C} {hid : Addr → Prop} {η η' : List Addr} {st st' : Sto} {H H' : Hp} {σ : L2.St} {k k' : α → List Addr → Sto → Hp → Prop}
theorem Res.gr {r : R Sto α} (g : Gr η st H η' st' H') (h : Res C hid η st H σ r k) : Res C hid η' st' H' σ r k := by
  cases r with
  | ok a s => exact fun η2 H2 r2 g2 => h η2 H2 r2 (g.trans g2)
  | exc x s =>
    cases x with
    | exc D fs => exact fun d us η2 H2 r2 g2 => h d us η2 H2 r2 (g.trans g2)
    | _ => exact h
  | bad => exact h
theorem Res.mono {r : R Sto α} (h : Res C hid η st H σ r k) (m : ∀ a η' st' H', Rel C.W hid η' st' H' → Gr η st H η' st' H' → k a η' st' H' → k' a η' st' H') : Res C hid η st H σ r k' := by
  cases r with
  | ok a s => exact fun η2 H2 r2 g2 => m a η2 s H2 r2 g2 (h η2 H2 r2 g2)
  | exc x s => exact h
  | bad => exact h
theorem Res.bind {r : R Sto α} {f : α → Sto → R Sto β} {k : β → List Addr → Sto → Hp → Prop} (h : Res C hid η st H σ (r.bind f) k) : Res C hid η st H σ r fun a η' st' H' => Res C hid η' st' H' σ (f a st') k := by
  cases r with
  | ok a s => exact fun η2 H2 r2 g2 => Res.gr g2 h
  | exc x s => exact h
  | bad => exact h
theorem Res.ofO {o : Option α} (h : Res C hid η st H σ (R.of o st) k) : ∃ z, o = some z ∧ ∀ η' H', Rel C.W hid η' st H' → Gr η st H η' st H' → k z η' st H' := by
  cases o with
  | none => exact h.elim
  | some z => exact ⟨z, rfl, h⟩
theorem Res.ofO' {o : Option α} {st2 : Sto} (h : Res C hid η st H σ (R.of o st2) k) : ∃ z, o = some z ∧ ∀ η' H', Rel C.W hid η' st2 H' → Gr η st H η' st2 H' → k z η' st2 H' := by
  cases o with
  | none => exact h.elim
  | some z => exact ⟨z, rfl, h⟩
/-- the answer stands in the heap as it is -/
theorem Res.here {v : Va} {Q : VK} (rel : Rel C.W hid η st H) (h : ∀ η' H', Rel C.W hid η' st H' → Gr η st H η' st H' → ∀ u, Rep C.W (Tb hid η' st) η' H' v u → Q u H') {u : V} (r : Rep C.W (Tb hid η st) η H v u) : Q u H :=
  h η H rel Gr.refl u r
theorem EnvR.gr {W : Wl} {ρ : Sl} (g : Gr η st H η' st' H') (e : EnvR W (Tb hid η st) η H ρ σ) : EnvR W (Tb hid η' st') η' H' ρ σ :=
  ⟨e.len, fun i v h => let ⟨u, e1, r⟩ := e.get i v h; ⟨u, e1, r.gr g⟩⟩
/-- what is asked of an expression -/
def tE (C : Cfg) (e : E) : TE := fun σ H Q => ∃ hid η st ρ, Rel C.W hid η st H ∧ EnvR C.W (Tb hid η st) η H ρ σ ∧ Res C hid η st H σ (evE C.G C.fr e ρ st) fun v η' st' H' => ∀ u, Rep C.W (Tb hid η' st') η' H' v u → Q u H'
/-- of an argument list -/
def tEs (C : Cfg) (es : List E) : TA := fun σ H Q => ∃ hid η st ρ, Rel C.W hid η st H ∧ EnvR C.W (Tb hid η st) η H ρ σ ∧ Res C hid η st H σ (evEs C.G C.fr es ρ st) fun vs η' st' H' => ∀ us, Reps C.W (Tb hid η' st') η' H' vs us → Q us H'
/-- of a test -/
def tT (C : Cfg) (e : E) : TT := fun σ H Q => ∃ hid η st ρ, Rel C.W hid η st H ∧ EnvR C.W (Tb hid η st) η H ρ σ ∧ Res C hid η st H σ ((evE C.G C.fr e ρ st).bind fun x st => R.of (truth x) st) fun b η' st' H' => Q b H'
end
section
variable {X : Cx}
theorem pe_weak {e : Expr} {t t' : TE} (h : PE X e t) (m : ∀ σ H Q, t' σ H Q → t σ H Q) : PE X e t' := ⟨fun pins s σ H Q I q => h.run pins s σ H Q I (m σ H Q q)⟩
theorem pt_weak {e : Expr} {t t' : TT} (h : PT X e t) (m : ∀ σ H Q, t' σ H Q → t σ H Q) : PT X e t' := ⟨fun pins s σ H Q I q => h.run pins s σ H Q I (m σ H Q q)⟩
theorem pw_weak {e : Expr} {t t' : TT} (h : PW X e t) (m : ∀ σ H Q, t' σ H Q → t σ H Q) : PW X e t' := ⟨fun wh pins s σ H Q I q => h.run wh pins s σ H Q I (m σ H Q q)⟩
theorem pa_weak {e : List Expr} {t t' : TA} (h : PA X e t) (m : ∀ σ H Q, t' σ H Q → t σ H Q) : PA X e t' := ⟨fun pos pins s σ H Q I q => h.run pos pins s σ H Q I (m σ H Q q)⟩
end
/-! ### contents -/
section
variable {W : Wl} {hid : Addr → Prop} {η : List Addr} {st : Sto} {H : Hp} {v : Va} {u : V}
/-- an object of the store, or the value itself -/
theorem rd_cases (v : Va) (st : Sto) : (∃ n o, v = .ref n ∧ st[n]? = some o ∧ alive o = true ∧ rd st v = (match o with | .lst vs => .lst vs | .dct kvs => .dct kvs | .ins C fs => .ins C fs | .dead => v)) ∨ rd st v = v := by
  cases v with
  | ref n =>
    cases e : st[n]? with
    | none => exact .inr (by simp [rd, e])
    | some o =>
      cases o with
      | lst vs => exact .inl ⟨n, _, rfl, e, rfl, by simp [rd, e]⟩
      | dct vs => exact .inl ⟨n, _, rfl, e, rfl, by simp [rd, e]⟩
      | ins C vs => exact .inl ⟨n, _, rfl, e, rfl, by simp [rd, e]⟩
      | dead => exact .inr (by simp [rd, e])
  | _ => exact .inr rfl
theorem rd_int {i : Int} (h : rd st v = .int i) (r : Rep W (Tb hid η st) η H v u) : v = .int i ∧ u = .int i := by
  rcases rd_cases v st with ⟨n, o, rfl, e, a, q⟩ | q
  · rw [h] at q; cases o <;> cases q
  · rw [q] at h; subst h; exact ⟨rfl, by simpa [Rep] using r⟩
theorem rd_str {i : List Nat} (h : rd st v = .str i) (r : Rep W (Tb hid η st) η H v u) : v = .str i ∧ u = .str (cS i) := by
  rcases rd_cases v st with ⟨n, o, rfl, e, a, q⟩ | q
  · rw [h] at q; cases o <;> cases q
  · rw [q] at h; subst h; exact ⟨rfl, by simpa [Rep] using r⟩
theorem rd_bl {i : Bool} (h : rd st v = .bl i) (r : Rep W (Tb hid η st) η H v u) : v = .bl i ∧ u = .bl i := by
  rcases rd_cases v st with ⟨n, o, rfl, e, a, q⟩ | q
  · rw [h] at q; cases o <;> cases q
  · rw [q] at h; subst h; exact ⟨rfl, by simpa [Rep] using r⟩
theorem rd_tup {vs : List Va} (h : rd st v = .tup vs) (r : Rep W (Tb hid η st) η H v u) : v = .tup vs ∧ ∃ a us, u = .ref a ∧ FzT W (Tb hid η st) H a us ∧ Reps W (Tb hid η st) η H vs us := by
  rcases rd_cases v st with ⟨n, o, rfl, e, a, q⟩ | q
  · rw [h] at q; cases o <;> cases q
  · rw [q] at h; subst h; exact ⟨rfl, by simpa [Rep] using r⟩
theorem rd_lst {vs : List Va} (rel : Rel W hid η st H) (h : rd st v = .lst vs) (r : Rep W (Tb hid η st) η H v u) : ∃ a us, u = .ref a ∧ H a = some (.lst us) ∧ Reps W (Tb hid η st) η H vs us := by
  rcases rd_cases v st with ⟨n, o, rfl, e, a, q⟩ | q
  · rw [h] at q
    cases o with
    | lst ws =>
      cases q
      simp only [Rep] at r
      obtain ⟨a, ea, rfl⟩ := r
      obtain ⟨us, h1, h2⟩ := rel.obs n _ a e ea
      exact ⟨a, us, rfl, h1, h2⟩
    | _ => cases q
  · rw [q] at h; subst h
    simp only [Rep] at r
    obtain ⟨a, us, e, f, r⟩ := r
    exact ⟨a, us, e, f.1, r⟩
theorem rd_lck {vs : List Va} (h : rd st v = .lck vs) (r : Rep W (Tb hid η st) η H v u) : ∃ a us, u = .ref a ∧ FzL W (Tb hid η st) H a us ∧ Reps W (Tb hid η st) η H vs us := by
  rcases rd_cases v st with ⟨n, o, rfl, e, a, q⟩ | q
  · rw [h] at q; cases o <;> cases q
  · rw [q] at h; subst h; simpa [Rep] using r
theorem rd_dct {kvs : List (Va × Va)} (rel : Rel W hid η st H) (h : rd st v = .dct kvs) (r : Rep W (Tb hid η st) η H v u) :
    ∃ a us, u = .ref a ∧ H a = some (.dK us) ∧ RepK W (Tb hid η st) η H kvs us := by
  rcases rd_cases v st with ⟨n, o, rfl, e, a, q⟩ | q
  · rw [h] at q
    cases o with
    | dct ws =>
      cases q
      simp only [Rep] at r
      obtain ⟨a, ea, rfl⟩ := r
      obtain ⟨us, h1, h2⟩ := rel.obs n _ a e ea
      exact ⟨a, us, rfl, h1, h2⟩
    | _ => cases q
  · rw [q] at h; subst h
    simp only [Rep] at r
    obtain ⟨a, us, e, _, h, r⟩ := r
    exact ⟨a, us, e, h, r⟩
theorem rd_ins {D : String} {fs : List (String × Va)} (rel : Rel W hid η st H) (h : rd st v = .ins D fs) (r : Rep W (Tb hid η st) η H v u) :
    ∃ a dx us, u = .ref a ∧ H a = some (.ins (W.adr D) dx us) ∧ RepF W (Tb hid η st) η H fs us := by
  rcases rd_cases v st with ⟨n, o, rfl, e, a, q⟩ | q
  · rw [h] at q
    cases o with
    | ins E ws =>
      cases q
      simp only [Rep] at r
      obtain ⟨a, ea, rfl⟩ := r
      obtain ⟨dx, us, h1, h2⟩ := rel.obs n _ a e ea
      exact ⟨a, dx, us, rfl, h1, h2⟩
    | _ => cases q
  · rw [q] at h; subst h
    simp only [Rep] at r
    obtain ⟨a, dx, us, e, _, f, r⟩ := r
    exact ⟨a, dx, us, e, f, r⟩
/-- a row: a list or a tuple -/
theorem rd_row {vs : List Va} (rel : Rel W hid η st H) (h : row? (rd st v) = some vs) (r : Rep W (Tb hid η st) η H v u) :
    ∃ a us, u = .ref a ∧ (SqL W.K H a us ∨ SqT W.K H a us) ∧ Reps W (Tb hid η st) η H vs us := by
  cases e : rd st v with
  | lst ws =>
    rw [e] at h; cases h
    obtain ⟨a, us, h1, h2, h3⟩ := rd_lst rel e r
    exact ⟨a, us, h1, .inl (SqL.of h2), h3⟩
  | tup ws =>
    rw [e] at h; cases h
    obtain ⟨_, a, us, h1, h2, h3⟩ := rd_tup e r
    exact ⟨a, us, h1, .inr h2.sq, h3⟩
  | lck ws =>
    rw [e] at h; cases h
    obtain ⟨a, us, h1, h2, h3⟩ := rd_lck e r
    exact ⟨a, us, h1, .inl h2.sq, h3⟩
  | _ => rw [e] at h; cases h
theorem Reps.length {T : Addr → Prop} : ∀ {vs : List Va} {us : List V}, Reps W T η H vs us → vs.length = us.length
  | [], _, h => by simp only [Reps] at h; subst h; rfl
  | v :: r, _, h => by
    simp only [Reps] at h
    obtain ⟨u, us', rfl, _, h2⟩ := h
    simp [Reps.length h2]
theorem Reps.append {T : Addr → Prop} : ∀ {vs ws : List Va} {us xs : List V}, Reps W T η H vs us → Reps W T η H ws xs → Reps W T η H (vs ++ ws) (us ++ xs)
  | [], _, _, _, h, h2 => by simp only [Reps] at h; subst h; exact h2
  | v :: r, _, _, _, h, h2 => by
    simp only [Reps] at h
    obtain ⟨u, us', rfl, h1, h3⟩ := h
    simp only [List.cons_append, Reps]
    exact ⟨_, _, rfl, h1, Reps.append h3 h2⟩
theorem Reps.get {T : Addr → Prop} : ∀ {vs : List Va} {us : List V} {j : Nat} {v : Va}, Reps W T η H vs us → vs[j]? = some v → ∃ u, us[j]? = some u ∧ Rep W T η H v u
  | [], _, _, _, _, e => by simp at e
  | w :: r, _, j, v, h, e => by
    simp only [Reps] at h
    obtain ⟨u, us', rfl, h1, h3⟩ := h
    cases j with
    | zero => simp at e; subst e; exact ⟨u, rfl, h1⟩
    | succ j => simp at e; simpa using Reps.get h3 e
end
end M
end
section
set_option Elab.async false
set_option linter.all false
set_option maxRecDepth 10000
set_option autoImplicit false
/-! Sem5: operators, comparisons. -/
namespace M
open PySem PySem.Spec PyProof.Rows L2
section
variable {C : Cfg} {α β : Type} {hid : Addr → Prop} {η : List Addr} {st : Sto} {H : Hp} {σ : L2.St} {ρ : Sl}
/-- the context's written part is the world's -/
theorem tE1 {a : E} {f : Va → Sto → R Sto β} {K : β → List Addr → Sto → Hp → Prop} {Rr : V → Hp → Prop} (rel : Rel C.W hid η st H) (env : EnvR C.W (Tb hid η st) η H ρ σ) (h : Res C hid η st H σ ((evE C.G C.fr a ρ st).bind f) K)
    (hr : ∀ x η' st' H', Rel C.W hid η' st' H' → Gr η st H η' st' H' → EnvR C.W (Tb hid η' st') η' H' ρ σ → ∀ u, Rep C.W (Tb hid η' st') η' H' x u → Res C hid η' st' H' σ (f x st') K → Rr u H') : tE C a σ H Rr :=
  ⟨hid, η, st, ρ, rel, env, h.bind.mono fun x η' st' H' r' g' q u ru => hr x η' st' H' r' g' (env.gr g') u ru q⟩
theorem tE2 {a b : E} {f : Va → Va → Sto → R Sto β} {K : β → List Addr → Sto → Hp → Prop} {Rr : V → V → Hp → Prop} (rel : Rel C.W hid η st H) (env : EnvR C.W (Tb hid η st) η H ρ σ)
    (h : Res C hid η st H σ ((evE C.G C.fr a ρ st).bind fun x st => (evE C.G C.fr b ρ st).bind fun y st => f x y st) K)
    (hr : ∀ x y η' st' H', Rel C.W hid η' st' H' → Gr η st H η' st' H' → EnvR C.W (Tb hid η' st') η' H' ρ σ → ∀ u w, Rep C.W (Tb hid η' st') η' H' x u → Rep C.W (Tb hid η' st') η' H' y w → Res C hid η' st' H' σ (f x y st') K → Rr u w H') :
    tE C a σ H fun u H1 => tE C b σ H1 fun w H2 => Rr u w H2 :=
  tE1 rel env h fun x η1 st1 H1 r1 g1 e1 u ru q1 => tE1 r1 e1 q1 fun y η2 st2 H2 r2 g2 e2 w rw' q2 => hr x y η2 st2 H2 r2 (g1.trans g2) e2 u w (ru.gr g2) rw' q2
variable {X : Cx} {N : List Str}
theorem se_var {i : Nat} {x : Str} {pos : Pos} (hN : X.N[i]? = some x) (hv : Vis X.env.scope x) (hd : (x == ("__debug__" : Str)) = false) (hcd : (x == ("__classdict__" : Str)) = false) : PE X (.Name x pos) (tE C (.var i)) := by
  refine pe_weak (pe_var hN hv hd hcd) fun σ H Q h => ?_
  obtain ⟨hid, η, st, ρ, rel, env, h⟩ := h
  rw [evE] at h
  obtain ⟨z, e, q⟩ := Res.ofO h
  cases e1 : ρ[i]? with
  | none => rw [e1] at e; cases e
  | some o =>
    rw [e1] at e
    have e : o = some z := e
    subst e
    obtain ⟨u, h1, h2⟩ := env.get i z e1
    exact ⟨u, h1, q η H rel Gr.refl u h2⟩
theorem se_int {i : Int} {j : Nat} {pos : Pos} : PE X (.Constant (.int i) j pos) (tE C (.con (.int i))) := by
  refine pe_weak pe_int fun σ H Q h => ?_
  obtain ⟨hid, η, st, ρ, rel, env, h⟩ := h
  rw [evE] at h
  exact h η H rel Gr.refl _ (by simp [Rep])
theorem se_bl {i : Bool} {j : Nat} {pos : Pos} : PE X (.Constant (.bool i) j pos) (tE C (.con (.bl i))) := by
  refine pe_weak pe_bl fun σ H Q h => ?_
  obtain ⟨hid, η, st, ρ, rel, env, h⟩ := h
  rw [evE] at h
  exact h η H rel Gr.refl _ (by simp [Rep])
theorem se_non {j : Nat} {pos : Pos} : PE X (.Constant .none j pos) (tE C (.con .non)) := by
  refine pe_weak pe_non fun σ H Q h => ?_
  obtain ⟨hid, η, st, ρ, rel, env, h⟩ := h
  rw [evE] at h
  exact h η H rel Gr.refl _ (by simp [Rep])
theorem cS_tl (x : Str) : cS (TL.tl x) = x := TL.mk_tl x
theorem se_str {x : Str} {s : List Nat} {j : Nat} {pos : Pos} (e : cS s = x) : PE X (.Constant (.str x) j pos) (tE C (.con (.str s))) := by
  refine pe_weak pe_str fun σ H Q h => ?_
  obtain ⟨hid, η, st, ρ, rel, env, h⟩ := h
  rw [evE] at h
  exact h η H rel Gr.refl _ (by simp [Rep, e])
/-! ### binary operators -/
theorem Lm_line {n : Nat} (h : small n = true) : n ≤ sizeLine := by
  have h : n ≤ Lm := of_decide_eq_true h
  rw [sizeLine_eq]; unfold Lm at h; omega
theorem cS_app (x y : List Nat) : cS x ++ cS y = cS (x ++ y) := TL.ext_tl (by rw [TL.tl_append])
theorem cS_len (x : List Nat) : (cS x).length = x.length := by simp [cS, Str.length]
/-- what an operator's rule is to give -/
def BinR (C : Cfg) (op : Bop) (r : R2) : Prop := ∀ (hid : Addr → Prop) (η : List Addr) (st : Sto) (H : Hp) (x y z : Va) (u w : V) (Q : VK), Rel C.W hid η st H → Rep C.W (Tb hid η st) η H x u → Rep C.W (Tb hid η st) η H y w →
  binop op (rd st x) (rd st y) = some z → (∀ η' H', Rel C.W hid η' st H' → Gr η st H η' st H' → ∀ u, Rep C.W (Tb hid η' st) η' H' z u → Q u H') → r u w H Q
theorem se_bin {a b : Expr} {ia ib : E} {o : Operator} {op : Bop} {r : R2} {pos : Pos} (ha : PE X a (tE C ia)) (hb : PE X b (tE C ib)) (ho : OpR X (binaryOp o) r) (br : BinR C op r) : PE X (.BinOp a o b pos) (tE C (.bin op ia ib)) := by
  refine pe_weak (pe_op ho ha hb) fun σ H Q h => ?_
  obtain ⟨hid, η, st, ρ, rel, env, h⟩ := h
  rw [evE] at h
  refine tE2 rel env h fun x y η' st' H' r' g' e' u w ru rw' q => ?_
  obtain ⟨z, ez, q⟩ := Res.ofO q
  exact br hid η' st' H' x y z u w Q r' ru rw' ez q
theorem new_tup {vs : List Va} {us : List V} {Q : VK} (rel : Rel C.W hid η st H) (r : Reps C.W (Tb hid η st) η H vs us) (q : ∀ η' H', Rel C.W hid η' st H' → Gr η st H η' st H' → ∀ u, Rep C.W (Tb hid η' st) η' H' (.tup vs) u → Q u H') :
    ∀ p, H p = none → Q (.ref p) (upd H p (.tup us)) := fun p hp =>
  q η _ (rel.laid hp) (Gr.laid hp) _ (by simp only [Rep]; exact ⟨p, us, rfl, .inl ⟨.inl upd_same, rel.free hp⟩, r.gr (Gr.laid hp)⟩)
theorem new_lst {vs : List Va} {us : List V} {Q : VK} (rel : Rel C.W hid η st H) (r : Reps C.W (Tb hid η st) η H vs us) (q : ∀ η' H', Rel C.W hid η' st H' → Gr η st H η' st H' → ∀ u, Rep C.W (Tb hid η' st) η' H' (.lst vs) u → Q u H') :
    ∀ p, H p = none → Q (.ref p) (upd H p (.lst us)) := fun p hp =>
  q η _ (rel.laid hp) (Gr.laid hp) _ (by simp only [Rep]; exact ⟨p, us, rfl, ⟨upd_same, rel.free hp⟩, r.gr (Gr.laid hp)⟩)
def rAdd4 (K : PySem.W.Frag) : R2 := fun x y H Q => (((rI0 fun i j => .int (i + j)) x y H Q ∨ (∃ i j, x = .str i ∧ y = .str j ∧ i.length + j.length ≤ sizeLine ∧ Q (.str (i ++ j)) H)) ∨ rCatA K x y H Q) ∨ rCat x y H Q
theorem op_add4 : OpR X (binaryOp .Add) (rAdd4 X.K) := ((op_add.or op_add_str).or op_catA).or op_cat
theorem br_add (hK : X.K = C.W.K) : BinR C .add (rAdd4 X.K) := by
  intro hid η st H x y z u w Q rel ru rw' e q
  replace e : addV (rd st x) (rd st y) = some z := e
  unfold addV at e
  split at e
  · rename_i i j e1 e2
    obtain ⟨_, rfl⟩ := rd_int e1 ru
    obtain ⟨_, rfl⟩ := rd_int e2 rw'
    cases e
    exact .inl (.inl (.inl ⟨i, j, rfl, rfl, q η H rel Gr.refl _ (by simp [Rep])⟩))
  · rename_i s t e1 e2
    obtain ⟨_, rfl⟩ := rd_str e1 ru
    obtain ⟨_, rfl⟩ := rd_str e2 rw'
    split at e
    · rename_i hs
      cases e
      exact .inl (.inl (.inr ⟨_, _, rfl, rfl, by rw [cS_len, cS_len]; exact Lm_line hs, q η H rel Gr.refl _ (by simp [Rep, cS_app])⟩))
    · cases e
  · rename_i vs ws e1 e2
    obtain ⟨rfl, a, us, rfl, ha, hu⟩ := rd_tup e1 ru
    obtain ⟨rfl, b, xs, rfl, hb, hx⟩ := rd_tup e2 rw'
    split at e
    · rename_i hs
      cases e
      refine .inl (.inr ⟨a, b, us, xs, rfl, rfl, by rw [hK]; exact ha.sq, by rw [hK]; exact hb.sq, by rw [← hu.length, ← hx.length]; exact Lm_line hs, fun e => ?_, fun e1 e => ?_, fun _ _ => new_tup rel (hu.append hx) q⟩)
      · subst e
        cases vs with
        | nil => exact q η H rel Gr.refl _ (by simpa using rw')
        | cons => have := hu.length; simp at this
      · subst e
        cases ws with
        | nil => exact q η H rel Gr.refl _ (by simpa using ru)
        | cons => have := hx.length; simp at this
    · cases e
  · rename_i vs ws e1 e2
    obtain ⟨a, us, rfl, ha, hu⟩ := rd_lst rel e1 ru
    obtain ⟨b, xs, rfl, hb, hx⟩ := rd_lst rel e2 rw'
    split at e
    · rename_i hs
      cases e
      exact .inr ⟨a, b, us, xs, rfl, rfl, ha, hb, by rw [← hu.length, ← hx.length]; exact Lm_line hs, new_lst rel (hu.append hx) q⟩
    · cases e
  · cases e
def rSub1 : R2 := rI0 fun i j => .int (i - j)
theorem br_sub : BinR C .sub rSub1 := by
  intro hid η st H x y z u w Q rel ru rw' e q
  replace e : subV (rd st x) (rd st y) = some z := e
  unfold subV at e
  split at e
  · rename_i i j e1 e2
    obtain ⟨_, rfl⟩ := rd_int e1 ru
    obtain ⟨_, rfl⟩ := rd_int e2 rw'
    cases e
    exact ⟨i, j, rfl, rfl, q η H rel Gr.refl _ (by simp [Rep])⟩
  · cases e
theorem big_lt {i : Int} (h : big i = true) : -(2 ^ 64) < i ∧ i < 2 ^ 64 := by
  have h : i.natAbs < 2 ^ 64 := of_decide_eq_true h
  omega
def rMul4 (K : PySem.W.Frag) : R2 := fun x y H Q => (((rI CMul fun i j => .int (i * j)) x y H Q ∨ (rI CMulW fun i j => .int (i * j)) x y H Q) ∨ rRep x y H Q) ∨ rRepT K x y H Q
theorem op_mul4 : OpR X (binaryOp .Mult) (rMul4 X.K) := ((op_mul.or op_mulW).or op_rep).or op_repT
theorem Reps.flat {W : Wl} {T : Addr → Prop} {vs : List Va} {us : List V} (r : Reps W T η H vs us) : ∀ k : Nat, Reps W T η H (List.replicate k vs).flatten (List.replicate k us).flatten
  | 0 => by simp [Reps]
  | k + 1 => by
    rw [List.replicate_succ, List.replicate_succ, List.flatten_cons, List.flatten_cons]
    exact r.append (Reps.flat r k)
theorem br_mul (hK : X.K = C.W.K) : BinR C .mul (rMul4 X.K) := by
  intro hid η st H x y z u w Q rel ru rw' e q
  replace e : mulV (rd st x) (rd st y) = some z := e
  unfold mulV at e
  split at e
  · rename_i i j e1 e2
    obtain ⟨_, rfl⟩ := rd_int e1 ru
    obtain ⟨_, rfl⟩ := rd_int e2 rw'
    split at e
    · rename_i hc
      cases e
      have qq := q η H rel Gr.refl (.int (i * j)) (by simp [Rep])
      rw [Bool.or_eq_true, Bool.or_eq_true, Bool.and_eq_true] at hc
      rcases hc with (hc | hc) | ⟨h1, h2⟩
      · exact .inl (.inl (.inl ⟨i, j, rfl, rfl, .inl (big_lt hc), qq⟩))
      · exact .inl (.inl (.inl ⟨i, j, rfl, rfl, .inr (big_lt hc), qq⟩))
      · exact .inl (.inl (.inr ⟨i, j, rfl, rfl, wide_mul (of_decide_eq_true h1) (of_decide_eq_true h2) (by decide) (by decide) (by decide), qq⟩))
    · cases e
  · rename_i vs k e1 e2
    obtain ⟨a, us, rfl, ha, hu⟩ := rd_lst rel e1 ru
    obtain ⟨_, rfl⟩ := rd_int e2 rw'
    split at e
    · rename_i hc
      cases e
      rw [Bool.and_eq_true] at hc
      have h1 : k.natAbs < 2 ^ 62 := of_decide_eq_true hc.1
      exact .inl (.inr ⟨a, k, us, rfl, rfl, ha, by omega, by omega, by rw [← hu.length]; exact Lm_line hc.2, new_lst rel (hu.flat _) q⟩)
    · cases e
  · rename_i vs k e1 e2
    obtain ⟨rfl, a, us, rfl, ha, hu⟩ := rd_tup e1 ru
    obtain ⟨_, rfl⟩ := rd_int e2 rw'
    split at e
    · rename_i hc
      cases e
      simp only [Bool.and_eq_true, decide_eq_true_eq] at hc
      obtain ⟨⟨⟨h1, h2⟩, h3⟩, h4⟩ := hc
      refine .inr ⟨a, k, us, rfl, rfl, by rw [hK]; exact ha.sq, fun e => ?_, h2, h3, by rw [← hu.length]; exact h4, new_tup rel (hu.flat _) q⟩
      subst e
      cases vs with
      | nil => exact h1 rfl
      | cons => have := hu.length; simp at this
    · cases e
  · cases e
def rDiv2 : R2 := fun x y H Q => (rI CDivW fun i j => .int (i / j)) x y H Q ∨ (rI CDivN fun i j => .int (i.fdiv j)) x y H Q
theorem op_div2 : OpR X (binaryOp .FloorDiv) rDiv2 := op_fdivW.or op_fdivN
theorem br_fdiv : BinR C .fdiv rDiv2 := by
  intro hid η st H x y z u w Q rel ru rw' e q
  replace e : fdivV (rd st x) (rd st y) = some z := e
  unfold fdivV at e
  split at e
  · rename_i i j e1 e2
    obtain ⟨_, rfl⟩ := rd_int e1 ru
    obtain ⟨_, rfl⟩ := rd_int e2 rw'
    split at e
    · rename_i hc
      cases e
      rw [Bool.and_eq_true] at hc
      exact .inl ⟨i, j, rfl, rfl, wide_div (of_decide_eq_true hc.1) (of_decide_eq_true hc.2) (by decide) (by decide), q η H rel Gr.refl _ (by simp [Rep])⟩
    · split at e
      · rename_i hc
        cases e
        rw [Bool.and_eq_true] at hc
        exact .inr ⟨i, j, rfl, rfl, ⟨of_decide_eq_true hc.1, of_decide_eq_true hc.2⟩, q η H rel Gr.refl _ (by simp [Rep])⟩
      · cases e
  · cases e
def rMod2 : R2 := fun x y H Q => (rI (fun _ j => 0 < j) fun i j => .int (i % j)) x y H Q ∨ (rI (fun _ j => j ≠ 0) fun i j => .int (i.fmod j)) x y H Q
theorem op_mod2 : OpR X (binaryOp .Mod) rMod2 := op_mod.or op_modN
theorem br_mod : BinR C .mod rMod2 := by
  intro hid η st H x y z u w Q rel ru rw' e q
  replace e : modV (rd st x) (rd st y) = some z := e
  unfold modV at e
  split at e
  · rename_i i j e1 e2
    obtain ⟨_, rfl⟩ := rd_int e1 ru
    obtain ⟨_, rfl⟩ := rd_int e2 rw'
    split at e
    · rename_i hc
      cases e
      exact .inl ⟨i, j, rfl, rfl, hc, q η H rel Gr.refl _ (by simp [Rep])⟩
    · split at e
      · rename_i hc
        cases e
        exact .inr ⟨i, j, rfl, rfl, hc, q η H rel Gr.refl _ (by simp [Rep])⟩
      · cases e
  · cases e
def rPow1 : R2 := rI CPow fun i j => .int (i ^ j.toNat)
theorem br_pow : BinR C .pow rPow1 := by
  intro hid η st H x y z u w Q rel ru rw' e q
  replace e : powV (rd st x) (rd st y) = some z := e
  unfold powV at e
  split at e
  · rename_i i j e1 e2
    obtain ⟨_, rfl⟩ := rd_int e1 ru
    obtain ⟨_, rfl⟩ := rd_int e2 rw'
    split at e
    · rename_i hc
      cases e
      simp only [Bool.and_eq_true, decide_eq_true_eq] at hc
      exact ⟨i, j, rfl, rfl, ⟨hc.1.1, hc.1.2, of_decide_eq_true hc.2⟩, q η H rel Gr.refl _ (by simp [Rep])⟩
    · cases e
  · cases e
end
end M
end
section
set_option Elab.async false
set_option linter.all false
set_option maxRecDepth 10000
set_option autoImplicit false
/-! Sem6: == and in of data. -/
namespace M
open PySem PySem.Spec PyProof.Rows L2 PySem.SeqAt
mutual
/-- data as it lies in the machine's heap -/
def Cv (h : Heap) : Va → Value → Prop
  | .non, x => x = .none
  | .bl b, x => x = .bool b
  | .int i, x => ∃ t, x = .int i t
  | .str s, x => ∃ t, x = .str (cS s) t
  | .tup vs, x => ∃ a its, x = .ref a ∧ h.IsTuple a its ∧ Cvs h vs its.toList
  | .lst vs, x => ∃ a its, x = .ref a ∧ h.IsList a its ∧ Cvs h vs its.toList
  | _, _ => False
def Cvs (h : Heap) : List Va → List Value → Prop
  | [], xs => xs = []
  | v :: r, xs => ∃ x xs', xs = x :: xs' ∧ Cv h v x ∧ Cvs h r xs'
end
theorem Cvs.length {h : Heap} : ∀ {vs : List Va} {xs : List Value}, Cvs h vs xs → vs.length = xs.length
  | [], _, e => by simp only [Cvs] at e; subst e; rfl
  | v :: r, _, e => by
    simp only [Cvs] at e
    obtain ⟨u, us', rfl, _, h2⟩ := e
    simp [Cvs.length h2]
theorem Cvs.get {h : Heap} : ∀ {vs : List Va} {xs : List Value} {j : Nat} {v : Va}, Cvs h vs xs → vs[j]? = some v → ∃ x, xs[j]? = some x ∧ Cv h v x
  | [], _, _, _, _, e => by simp at e
  | w :: r, _, j, v, q, e => by
    simp only [Cvs] at q
    obtain ⟨u, us', rfl, h1, h3⟩ := q
    cases j with
    | zero => simp at e; subst e; exact ⟨u, rfl, h1⟩
    | succ j => simp at e; simpa using Cvs.get h3 e
/-- data has no other form at one object -/
theorem veqs_len : ∀ {xs ys : List Va}, xs.length ≠ ys.length → veqs xs ys = false
  | [], [], h => absurd rfl h
  | [], _ :: _, _ => by simp [veqs]
  | _ :: _, [], _ => by simp [veqs]
  | x :: xs, y :: ys, h => by
    have := veqs_len (xs := xs) (ys := ys) (by simpa using h)
    simp [veqs, this]
def atEq (xs ys : List Va) (j : Nat) : Bool := match xs[j]?, ys[j]? with
  | some x, some y => veq x y
  | _, _ => true
theorem range_all_succ (n : Nat) (p : Nat → Bool) : (List.range (n + 1)).all p = (p 0 && (List.range n).all fun j => p (j + 1)) := by
  rw [List.range_succ_eq_map, List.all_cons, List.all_map]; rfl
theorem veqs_eq : ∀ xs ys : List Va, veqs xs ys = ((List.range (min xs.length ys.length)).all (atEq xs ys) && xs.length == ys.length)
  | [], [] => by simp [veqs]
  | [], _ :: _ => by simp [veqs]
  | _ :: _, [] => by simp [veqs]
  | x :: xs, y :: ys => by
    have ih := veqs_eq xs ys
    have e : min (x :: xs).length (y :: ys).length = min xs.length ys.length + 1 := by simp only [List.length_cons]; omega
    rw [e, range_all_succ]
    have e0 : atEq (x :: xs) (y :: ys) 0 = veq x y := by simp [atEq]
    have e1 : (fun j => atEq (x :: xs) (y :: ys) (j + 1)) = atEq xs ys := by funext j; simp [atEq]
    rw [e0, e1]
    simp only [veqs, ih, List.length_cons]
    rw [Bool.and_assoc]
    congr 2
    simp [BEq.beq]
mutual
theorem veq_refl : ∀ (n : Nat) (v : Va), dat n v = true → veq v v = true
  | _, .non, _ => by simp [veq]
  | _, .bl _, _ => by simp [veq]
  | _, .int _, _ => by simp [veq]
  | _, .str _, _ => by simp [veq]
  | n + 1, .tup vs, h => by simp only [dat] at h; simp only [veq]; exact veqs_refl n vs h
  | n + 1, .lst vs, h => by simp only [dat] at h; simp only [veq]; exact veqs_refl n vs h
  | 0, .tup _, h => by simp [dat] at h
  | 0, .lst _, h => by simp [dat] at h
  | n, .lck _, h => by cases n <;> simp [dat] at h
  | n, .dct _, h => by cases n <;> simp [dat] at h
  | n, .ins _ _, h => by cases n <;> simp [dat] at h
  | n, .ref _, h => by cases n <;> simp [dat] at h
  | n, .fn _, h => by cases n <;> simp [dat] at h
  | n, .clo _ _, h => by cases n <;> simp [dat] at h
  | n, .exc _ _, h => by cases n <;> simp [dat] at h
theorem veqs_refl : ∀ (n : Nat) (vs : List Va), vs.all (dat n) = true → veqs vs vs = true
  | _, [], _ => by simp [veqs]
  | n, v :: r, h => by
    rw [List.all_cons, Bool.and_eq_true] at h
    simp only [veqs, Bool.and_eq_true]
    exact ⟨veq_refl n v h.1, veqs_refl n r h.2⟩
end
theorem tuple_arr {h : Heap} {a : Addr} {x y : Array Value} (p : h.IsTuple a x) (q : h.IsTuple a y) : x = y := by
  obtain ⟨o, e, _, n, d⟩ := p
  obtain ⟨o', e', _, n', d'⟩ := q
  rw [e] at e'; cases e'
  rw [d] at d'
  injection d'
theorem list_arr {h : Heap} {a : Addr} {x y : Array Value} (p : h.IsList a x) (q : h.IsList a y) : x = y := by
  obtain ⟨o, e, _, n, d⟩ := p
  obtain ⟨o', e', _, n', d'⟩ := q
  rw [e] at e'; cases e'
  rw [d] at d'
  injection d'
theorem ne_tl {h : Heap} {a : Addr} {x y : Array Value} (p : h.IsTuple a x) (q : h.IsList a y) : False := by
  obtain ⟨o, e, c, n, d⟩ := p
  obtain ⟨o', e', c', n', d'⟩ := q
  rw [e] at e'; cases e'
  rw [c] at c'; injection c' with z; exact absurd z (by decide)
theorem cS_inj {x y : List Nat} (h : cS x = cS y) : x = y := by
  have := congrArg TL.tl h
  simpa [cS, TL.tl] using this
mutual
/-- one thing, one form -/
theorem Cv.uniq {h : Heap} : ∀ (v w : Va) (x : Value), Cv h v x → Cv h w x → v = w
  | .non, w, x, a, b => by
    simp only [Cv] at a; subst a
    cases w <;> simp [Cv] at b ⊢
  | .bl _, w, x, a, b => by
    simp only [Cv] at a; subst a
    cases w <;> simp [Cv] at b ⊢ <;> exact b
  | .int i, w, x, a, b => by
    simp only [Cv] at a; obtain ⟨t, rfl⟩ := a
    cases w <;> simp [Cv] at b ⊢
    exact b
  | .str i, w, x, a, b => by
    simp only [Cv] at a; obtain ⟨t, rfl⟩ := a
    cases w <;> simp only [Cv] at b <;> first | (obtain ⟨t, b⟩ := b; injection b with b _; rw [cS_inj b]) | (exact nomatch b) | (obtain ⟨_, b⟩ := b; exact nomatch b) | (obtain ⟨_, _, b, _⟩ := b; exact nomatch b) | exact b.elim
  | .tup vs, w, x, a, b => by
    simp only [Cv] at a; obtain ⟨l, its, rfl, p, q⟩ := a
    cases w with
    | tup ws =>
      simp only [Cv] at b; obtain ⟨l', its', e, p', q'⟩ := b
      cases e
      have := tuple_arr p p'; subst this
      rw [Cvs.uniq vs ws _ q q']
    | lst ws =>
      simp only [Cv] at b; obtain ⟨l', its', e, p', q'⟩ := b
      cases e
      exact (ne_tl p p').elim
    | non => simp [Cv] at b
    | bl _ => simp [Cv] at b
    | int _ => simp [Cv] at b
    | str _ => simp [Cv] at b
    | _ => simp [Cv] at b
  | .lst vs, w, x, a, b => by
    simp only [Cv] at a; obtain ⟨l, its, rfl, p, q⟩ := a
    cases w with
    | lst ws =>
      simp only [Cv] at b; obtain ⟨l', its', e, p', q'⟩ := b
      cases e
      have := list_arr p p'; subst this
      rw [Cvs.uniq vs ws _ q q']
    | tup ws =>
      simp only [Cv] at b; obtain ⟨l', its', e, p', q'⟩ := b
      cases e
      exact (ne_tl p' p).elim
    | non => simp [Cv] at b
    | bl _ => simp [Cv] at b
    | int _ => simp [Cv] at b
    | str _ => simp [Cv] at b
    | _ => simp [Cv] at b
  | .lck _, _, _, a, _ => by simp [Cv] at a
  | .dct _, _, _, a, _ => by simp [Cv] at a
  | .ins _ _, _, _, a, _ => by simp [Cv] at a
  | .ref _, _, _, a, _ => by simp [Cv] at a
  | .fn _, _, _, a, _ => by simp [Cv] at a
  | .clo _ _, _, _, a, _ => by simp [Cv] at a
  | .exc _ _, _, _, a, _ => by simp [Cv] at a
theorem Cvs.uniq {h : Heap} : ∀ (vs ws : List Va) (xs : List Value), Cvs h vs xs → Cvs h ws xs → vs = ws
  | [], ws, xs, a, b => by
    simp only [Cvs] at a; subst a
    cases ws with
    | nil => rfl
    | cons => simp [Cvs] at b
  | v :: r, ws, xs, a, b => by
    simp only [Cvs] at a; obtain ⟨x, xs', rfl, a1, a2⟩ := a
    cases ws with
    | nil => simp [Cvs] at b
    | cons w r' =>
      simp only [Cvs] at b; obtain ⟨x2, xs2, e, b1, b2⟩ := b
      cases e
      rw [Cv.uniq v w x a1 b1, Cvs.uniq r r' xs' a2 b2]
end
/-- == of data -/
theorem eq_at : ∀ (n : Nat) (v w : Va) (x y : Value) (A : Around) (s : Shared), Cv s.heap v x → Cv s.heap w y → dat n v = true → dat n w = true → A.units + n < cLine → EqAt A s x y (veq v w)
  | n, .non, w, x, y, A, s, a, b, _, hw, hu => by
    simp only [Cv] at a; subst a
    cases w with
    | non => simp only [Cv] at b; subst b; simp only [veq]; exact EqAt.same _
    | bl _ => simp only [Cv] at b; subst b; simp only [veq]; exact EqAt.none_bool _
    | int _ => simp only [Cv] at b; obtain ⟨t, rfl⟩ := b; simp only [veq]; exact EqAt.none_int _ _
    | str _ => simp only [Cv] at b; obtain ⟨t, rfl⟩ := b; simp only [veq]; exact EqAt.none_str _ _
    | tup _ => simp only [Cv] at b; obtain ⟨l, its, rfl, p, _⟩ := b; simp only [veq]; exact EqAt.none_tuple p (by omega)
    | lst _ => simp only [Cv] at b; obtain ⟨l, its, rfl, p, _⟩ := b; simp only [veq]; exact EqAt.none_list p (by omega)
    | _ => simp [Cv] at b
  | n, .bl k, w, x, y, A, s, a, b, _, hw, hu => by
    simp only [Cv] at a; subst a
    cases w with
    | non => simp only [Cv] at b; subst b; simp only [veq]; exact EqAt.bool_none _
    | bl _ => simp only [Cv] at b; subst b; simp only [veq]; exact EqAt.bool_bool _ _
    | int j =>
      simp only [Cv] at b; obtain ⟨t, rfl⟩ := b; simp only [veq]
      have := EqAt.bool_int (A := A) (s := s) k j t
      rw [Bool.beq_eq_decide_eq] at this
      exact this
    | str _ => simp only [Cv] at b; obtain ⟨t, rfl⟩ := b; simp only [veq]; exact EqAt.bool_str _ _ _
    | tup _ => simp only [Cv] at b; obtain ⟨l, its, rfl, p, _⟩ := b; simp only [veq]; exact EqAt.bool_tuple _ p (by omega)
    | lst _ => simp only [Cv] at b; obtain ⟨l, its, rfl, p, _⟩ := b; simp only [veq]; exact EqAt.bool_list _ p (by omega)
    | _ => simp [Cv] at b
  | n, .int k, w, x, y, A, s, a, b, _, hw, hu => by
    simp only [Cv] at a; obtain ⟨t, rfl⟩ := a
    cases w with
    | non => simp only [Cv] at b; subst b; simp only [veq]; exact EqAt.int_none _ _
    | bl j =>
      simp only [Cv] at b; subst b; simp only [veq]
      have := EqAt.int_bool (A := A) (s := s) k t j
      rw [Bool.beq_eq_decide_eq] at this
      exact this
    | int j =>
      simp only [Cv] at b; obtain ⟨u, rfl⟩ := b; simp only [veq]
      have := EqAt.int_int (A := A) (s := s) k t j u
      rw [Bool.beq_eq_decide_eq] at this
      exact this
    | str _ => simp only [Cv] at b; obtain ⟨u, rfl⟩ := b; simp only [veq]; exact EqAt.int_str _ _ _ _
    | tup _ => simp only [Cv] at b; obtain ⟨l, its, rfl, p, _⟩ := b; simp only [veq]; exact EqAt.int_tuple _ _ p (by omega)
    | lst _ => simp only [Cv] at b; obtain ⟨l, its, rfl, p, _⟩ := b; simp only [veq]; exact EqAt.int_list _ _ p (by omega)
    | _ => simp [Cv] at b
  | n, .str k, w, x, y, A, s, a, b, _, hw, hu => by
    simp only [Cv] at a; obtain ⟨t, rfl⟩ := a
    cases w with
    | non => simp only [Cv] at b; subst b; simp only [veq]; exact EqAt.str_none _ _
    | bl j => simp only [Cv] at b; subst b; simp only [veq]; exact EqAt.str_bool _ _ _
    | int j => simp only [Cv] at b; obtain ⟨u, rfl⟩ := b; simp only [veq]; exact EqAt.str_int _ _ _ _
    | str j =>
      simp only [Cv] at b; obtain ⟨u, rfl⟩ := b; simp only [veq]
      have := EqAt.str_str (A := A) (s := s) (cS k) t (cS j) u
      have e : decide (k = j) = decide (cS k = cS j) := by
        by_cases q : k = j
        · subst q; simp
        · rw [decide_eq_false q, decide_eq_false fun z => q (cS_inj z)]
      rw [e]
      first | exact this | (rw [← Bool.beq_eq_decide_eq]; exact this)
    | tup _ => simp only [Cv] at b; obtain ⟨l, its, rfl, p, _⟩ := b; simp only [veq]; exact EqAt.str_tuple _ _ p (by omega)
    | lst _ => simp only [Cv] at b; obtain ⟨l, its, rfl, p, _⟩ := b; simp only [veq]; exact EqAt.str_list _ _ p (by omega)
    | _ => simp [Cv] at b
  | n + 1, .tup vs, w, x, y, A, s, a, b, hv, hw, hu => by
    have a0 := a
    simp only [Cv] at a; obtain ⟨l, its, rfl, p, q⟩ := a
    cases w with
    | non => simp only [Cv] at b; subst b; simp only [veq]; exact EqAt.tuple_none p (by omega)
    | bl j => simp only [Cv] at b; subst b; simp only [veq]; exact EqAt.tuple_bool _ p (by omega)
    | int j => simp only [Cv] at b; obtain ⟨u, rfl⟩ := b; simp only [veq]; exact EqAt.tuple_int _ _ p (by omega)
    | str j => simp only [Cv] at b; obtain ⟨u, rfl⟩ := b; simp only [veq]; exact EqAt.tuple_str _ _ p (by omega)
    | lst _ => simp only [Cv] at b; obtain ⟨l', its', rfl, p', _⟩ := b; simp only [veq]; exact EqAt.tuple_list p p' (by omega)
    | tup ws =>
      have b0 := b
      simp only [Cv] at b; obtain ⟨l', its', rfl, p', q'⟩ := b
      by_cases hl : l = l'
      · subst hl
        have e := Cv.uniq _ _ _ a0 b0
        rw [← e, veq_refl (n + 1) _ hv]
        exact EqAt.same _
      · simp only [veq]
        simp only [dat] at hv hw
        have n1 : vs.length = its.size := by simpa using q.length
        have n2 : ws.length = its'.size := by simpa using q'.length
        rw [veqs_eq, n1, n2]
        refine EqAt.of_refs hl (RcAt.tuples p p' (by omega) fun j j1 j2 => ?_)
        have h1 : vs[j]? = some vs[j] := List.getElem?_eq_getElem (by omega)
        have h2 : ws[j]? = some ws[j] := List.getElem?_eq_getElem (by omega)
        obtain ⟨x1, e1, c1⟩ := q.get h1
        obtain ⟨x2, e2, c2⟩ := q'.get h2
        have f1 : its[j] = x1 := by
          have : its.toList[j]? = some its[j] := by simp [j1]
          rw [this] at e1; exact Option.some.inj e1
        have f2 : its'[j] = x2 := by
          have : its'.toList[j]? = some its'[j] := by simp [j2]
          rw [this] at e2; exact Option.some.inj e2
        rw [f1, f2]
        simp only [atEq, h1, h2]
        exact eq_at n _ _ _ _ A.in1 s c1 c2 (List.all_eq_true.mp hv _ (List.getElem_mem _)) (List.all_eq_true.mp hw _ (List.getElem_mem _)) (by show A.units + 1 + n < cLine; omega)
    | _ => simp [Cv] at b
  | n + 1, .lst vs, w, x, y, A, s, a, b, hv, hw, hu => by
    have a0 := a
    simp only [Cv] at a; obtain ⟨l, its, rfl, p, q⟩ := a
    cases w with
    | non => simp only [Cv] at b; subst b; simp only [veq]; exact EqAt.list_none p (by omega)
    | bl j => simp only [Cv] at b; subst b; simp only [veq]; exact EqAt.list_bool _ p (by omega)
    | int j => simp only [Cv] at b; obtain ⟨u, rfl⟩ := b; simp only [veq]; exact EqAt.list_int _ _ p (by omega)
    | str j => simp only [Cv] at b; obtain ⟨u, rfl⟩ := b; simp only [veq]; exact EqAt.list_str _ _ p (by omega)
    | tup _ => simp only [Cv] at b; obtain ⟨l', its', rfl, p', _⟩ := b; simp only [veq]; exact EqAt.list_tuple p p' (by omega)
    | lst ws =>
      have b0 := b
      simp only [Cv] at b; obtain ⟨l', its', rfl, p', q'⟩ := b
      by_cases hl : l = l'
      · subst hl
        have e := Cv.uniq _ _ _ a0 b0
        rw [← e, veq_refl (n + 1) _ hv]
        exact EqAt.same _
      · simp only [veq]
        simp only [dat] at hv hw
        have n1 : vs.length = its.size := by simpa using q.length
        have n2 : ws.length = its'.size := by simpa using q'.length
        by_cases hs : its.size = its'.size
        · have e : veqs vs ws = (List.range its.size).all (atEq vs ws) := by
            rw [veqs_eq, n1, n2, hs]; simp
          rw [e]
          refine EqAt.of_refs hl (RcAt.lists p p' hs (by omega) fun j j1 j2 => ?_)
          have h1 : vs[j]? = some vs[j] := List.getElem?_eq_getElem (by omega)
          have h2 : ws[j]? = some ws[j] := List.getElem?_eq_getElem (by omega)
          obtain ⟨x1, e1, c1⟩ := q.get h1
          obtain ⟨x2, e2, c2⟩ := q'.get h2
          have f1 : its[j] = x1 := by
            have : its.toList[j]? = some its[j] := by simp [j1]
            rw [this] at e1; exact Option.some.inj e1
          have f2 : its'[j] = x2 := by
            have : its'.toList[j]? = some its'[j] := by simp [j2]
            rw [this] at e2; exact Option.some.inj e2
          rw [f1, f2]
          simp only [atEq, h1, h2]
          exact eq_at n _ _ _ _ A.in1 s c1 c2 (List.all_eq_true.mp hv _ (List.getElem_mem _)) (List.all_eq_true.mp hw _ (List.getElem_mem _)) (by show A.units + 1 + n < cLine; omega)
        · rw [veqs_len (by omega)]
          exact EqAt.of_refs hl (RcAt.lists_lengths p p' (by simpa using hs) (by omega))
    | _ => simp [Cv] at b
  | 0, .tup _, _, _, _, _, _, _, _, h, _, _ => by simp [dat] at h
  | 0, .lst _, _, _, _, _, _, _, _, h, _, _ => by simp [dat] at h
  | n, .lck _, _, _, _, _, _, a, _, _, _, _ => by simp [Cv] at a
  | n, .dct _, _, _, _, _, _, a, _, _, _, _ => by simp [Cv] at a
  | n, .ins _ _, _, _, _, _, _, a, _, _, _, _ => by simp [Cv] at a
  | n, .ref _, _, _, _, _, _, a, _, _, _, _ => by simp [Cv] at a
  | n, .fn _, _, _, _, _, _, a, _, _, _, _ => by simp [Cv] at a
  | n, .clo _ _, _, _, _, _, _, a, _, _, _, _ => by simp [Cv] at a
  | n, .exc _ _, _, _, _, _, _, a, _, _, _, _ => by simp [Cv] at a
end M
end
section
set_option Elab.async false
set_option linter.all false
set_option maxRecDepth 10000
set_option autoImplicit false
/-! Sem7: == and != as signs; in. -/
namespace M
open PySem PySem.Spec PyProof.Rows L2 PySem.SeqAt
/-- the same, asked by the sign == -/
theorem rc_at : ∀ (n : Nat) (v w : Va) (x y : Value) (A : Around) (s : Shared), Cv s.heap v x → Cv s.heap w y → dat n v = true → dat n w = true → A.units + n < cLine → RcAt A s x y (veq v w)
  | n, .non, w, x, y, A, s, a, b, _, hw, hu => by
    simp only [Cv] at a; subst a
    cases w with
    | non => simp only [Cv] at b; subst b; simp only [veq]; exact RcAt.none_none
    | bl _ => simp only [Cv] at b; subst b; simp only [veq]; exact RcAt.none_bool _
    | int _ => simp only [Cv] at b; obtain ⟨t, rfl⟩ := b; simp only [veq]; exact RcAt.none_int _ _
    | str _ => simp only [Cv] at b; obtain ⟨t, rfl⟩ := b; simp only [veq]; exact RcAt.none_str _ _
    | tup _ => simp only [Cv] at b; obtain ⟨l, its, rfl, p, _⟩ := b; simp only [veq]; exact RcAt.none_tuple p (by omega)
    | lst _ => simp only [Cv] at b; obtain ⟨l, its, rfl, p, _⟩ := b; simp only [veq]; exact RcAt.none_list p (by omega)
    | _ => simp [Cv] at b
  | n, .bl k, w, x, y, A, s, a, b, _, hw, hu => by
    simp only [Cv] at a; subst a
    cases w with
    | non => simp only [Cv] at b; subst b; simp only [veq]; exact RcAt.bool_none _
    | bl _ => simp only [Cv] at b; subst b; simp only [veq]; exact RcAt.bool_bool _ _
    | int j =>
      simp only [Cv] at b; obtain ⟨t, rfl⟩ := b; simp only [veq]
      have := RcAt.bool_int (A := A) (s := s) k j t
      rw [Bool.beq_eq_decide_eq] at this
      exact this
    | str _ => simp only [Cv] at b; obtain ⟨t, rfl⟩ := b; simp only [veq]; exact RcAt.bool_str _ _ _
    | tup _ => simp only [Cv] at b; obtain ⟨l, its, rfl, p, _⟩ := b; simp only [veq]; exact RcAt.bool_tuple _ p (by omega)
    | lst _ => simp only [Cv] at b; obtain ⟨l, its, rfl, p, _⟩ := b; simp only [veq]; exact RcAt.bool_list _ p (by omega)
    | _ => simp [Cv] at b
  | n, .int k, w, x, y, A, s, a, b, _, hw, hu => by
    simp only [Cv] at a; obtain ⟨t, rfl⟩ := a
    cases w with
    | non => simp only [Cv] at b; subst b; simp only [veq]; exact RcAt.int_none _ _
    | bl j =>
      simp only [Cv] at b; subst b; simp only [veq]
      have := RcAt.int_bool (A := A) (s := s) k t j
      rw [Bool.beq_eq_decide_eq] at this
      exact this
    | int j =>
      simp only [Cv] at b; obtain ⟨u, rfl⟩ := b; simp only [veq]
      have := RcAt.int_int (A := A) (s := s) k t j u
      rw [Bool.beq_eq_decide_eq] at this
      exact this
    | str _ => simp only [Cv] at b; obtain ⟨u, rfl⟩ := b; simp only [veq]; exact RcAt.int_str _ _ _ _
    | tup _ => simp only [Cv] at b; obtain ⟨l, its, rfl, p, _⟩ := b; simp only [veq]; exact RcAt.int_tuple _ _ p (by omega)
    | lst _ => simp only [Cv] at b; obtain ⟨l, its, rfl, p, _⟩ := b; simp only [veq]; exact RcAt.int_list _ _ p (by omega)
    | _ => simp [Cv] at b
  | n, .str k, w, x, y, A, s, a, b, _, hw, hu => by
    simp only [Cv] at a; obtain ⟨t, rfl⟩ := a
    cases w with
    | non => simp only [Cv] at b; subst b; simp only [veq]; exact RcAt.str_none _ _
    | bl j => simp only [Cv] at b; subst b; simp only [veq]; exact RcAt.str_bool _ _ _
    | int j => simp only [Cv] at b; obtain ⟨u, rfl⟩ := b; simp only [veq]; exact RcAt.str_int _ _ _ _
    | str j =>
      simp only [Cv] at b; obtain ⟨u, rfl⟩ := b; simp only [veq]
      have := RcAt.str_str (A := A) (s := s) (cS k) t (cS j) u
      have e : decide (k = j) = decide (cS k = cS j) := by
        by_cases q : k = j
        · subst q; simp
        · rw [decide_eq_false q, decide_eq_false fun z => q (cS_inj z)]
      rw [e]
      first | exact this | (rw [← Bool.beq_eq_decide_eq]; exact this)
    | tup _ => simp only [Cv] at b; obtain ⟨l, its, rfl, p, _⟩ := b; simp only [veq]; exact RcAt.str_tuple _ _ p (by omega)
    | lst _ => simp only [Cv] at b; obtain ⟨l, its, rfl, p, _⟩ := b; simp only [veq]; exact RcAt.str_list _ _ p (by omega)
    | _ => simp [Cv] at b
  | n + 1, .tup vs, w, x, y, A, s, a, b, hv, hw, hu => by
    have a0 := a
    simp only [Cv] at a; obtain ⟨l, its, rfl, p, q⟩ := a
    cases w with
    | non => simp only [Cv] at b; subst b; simp only [veq]; exact RcAt.tuple_none p (by omega)
    | bl j => simp only [Cv] at b; subst b; simp only [veq]; exact RcAt.tuple_bool _ p (by omega)
    | int j => simp only [Cv] at b; obtain ⟨u, rfl⟩ := b; simp only [veq]; exact RcAt.tuple_int _ _ p (by omega)
    | str j => simp only [Cv] at b; obtain ⟨u, rfl⟩ := b; simp only [veq]; exact RcAt.tuple_str _ _ p (by omega)
    | lst _ => simp only [Cv] at b; obtain ⟨l', its', rfl, p', _⟩ := b; simp only [veq]; exact RcAt.tuple_list p p' (by omega)
    | tup ws =>
      have b0 := b
      simp only [Cv] at b; obtain ⟨l', its', rfl, p', q'⟩ := b
      · simp only [veq]
        simp only [dat] at hv hw
        have n1 : vs.length = its.size := by simpa using q.length
        have n2 : ws.length = its'.size := by simpa using q'.length
        rw [veqs_eq, n1, n2]
        refine RcAt.tuples p p' (by omega) fun j j1 j2 => ?_
        have h1 : vs[j]? = some vs[j] := List.getElem?_eq_getElem (by omega)
        have h2 : ws[j]? = some ws[j] := List.getElem?_eq_getElem (by omega)
        obtain ⟨x1, e1, c1⟩ := q.get h1
        obtain ⟨x2, e2, c2⟩ := q'.get h2
        have f1 : its[j] = x1 := by
          have : its.toList[j]? = some its[j] := by simp [j1]
          rw [this] at e1; exact Option.some.inj e1
        have f2 : its'[j] = x2 := by
          have : its'.toList[j]? = some its'[j] := by simp [j2]
          rw [this] at e2; exact Option.some.inj e2
        rw [f1, f2]
        simp only [atEq, h1, h2]
        exact eq_at n _ _ _ _ A.in1 s c1 c2 (List.all_eq_true.mp hv _ (List.getElem_mem _)) (List.all_eq_true.mp hw _ (List.getElem_mem _)) (by show A.units + 1 + n < cLine; omega)
    | _ => simp [Cv] at b
  | n + 1, .lst vs, w, x, y, A, s, a, b, hv, hw, hu => by
    have a0 := a
    simp only [Cv] at a; obtain ⟨l, its, rfl, p, q⟩ := a
    cases w with
    | non => simp only [Cv] at b; subst b; simp only [veq]; exact RcAt.list_none p (by omega)
    | bl j => simp only [Cv] at b; subst b; simp only [veq]; exact RcAt.list_bool _ p (by omega)
    | int j => simp only [Cv] at b; obtain ⟨u, rfl⟩ := b; simp only [veq]; exact RcAt.list_int _ _ p (by omega)
    | str j => simp only [Cv] at b; obtain ⟨u, rfl⟩ := b; simp only [veq]; exact RcAt.list_str _ _ p (by omega)
    | tup _ => simp only [Cv] at b; obtain ⟨l', its', rfl, p', _⟩ := b; simp only [veq]; exact RcAt.list_tuple p p' (by omega)
    | lst ws =>
      have b0 := b
      simp only [Cv] at b; obtain ⟨l', its', rfl, p', q'⟩ := b
      · simp only [veq]
        simp only [dat] at hv hw
        have n1 : vs.length = its.size := by simpa using q.length
        have n2 : ws.length = its'.size := by simpa using q'.length
        by_cases hs : its.size = its'.size
        · have e : veqs vs ws = (List.range its.size).all (atEq vs ws) := by
            rw [veqs_eq, n1, n2, hs]; simp
          rw [e]
          refine RcAt.lists p p' hs (by omega) fun j j1 j2 => ?_
          have h1 : vs[j]? = some vs[j] := List.getElem?_eq_getElem (by omega)
          have h2 : ws[j]? = some ws[j] := List.getElem?_eq_getElem (by omega)
          obtain ⟨x1, e1, c1⟩ := q.get h1
          obtain ⟨x2, e2, c2⟩ := q'.get h2
          have f1 : its[j] = x1 := by
            have : its.toList[j]? = some its[j] := by simp [j1]
            rw [this] at e1; exact Option.some.inj e1
          have f2 : its'[j] = x2 := by
            have : its'.toList[j]? = some its'[j] := by simp [j2]
            rw [this] at e2; exact Option.some.inj e2
          rw [f1, f2]
          simp only [atEq, h1, h2]
          exact eq_at n _ _ _ _ A.in1 s c1 c2 (List.all_eq_true.mp hv _ (List.getElem_mem _)) (List.all_eq_true.mp hw _ (List.getElem_mem _)) (by show A.units + 1 + n < cLine; omega)
        · rw [veqs_len (by omega)]
          exact RcAt.lists_lengths p p' (by simpa using hs) (by omega)
    | _ => simp [Cv] at b
  | 0, .tup _, _, _, _, _, _, _, _, h, _, _ => by simp [dat] at h
  | 0, .lst _, _, _, _, _, _, _, _, h, _, _ => by simp [dat] at h
  | n, .lck _, _, _, _, _, _, a, _, _, _, _ => by simp [Cv] at a
  | n, .dct _, _, _, _, _, _, a, _, _, _, _ => by simp [Cv] at a
  | n, .ins _ _, _, _, _, _, _, a, _, _, _, _ => by simp [Cv] at a
  | n, .ref _, _, _, _, _, _, a, _, _, _, _ => by simp [Cv] at a
  | n, .fn _, _, _, _, _, _, a, _, _, _, _ => by simp [Cv] at a
  | n, .clo _ _, _, _, _, _, _, a, _, _, _, _ => by simp [Cv] at a
  | n, .exc _ _, _, _, _, _, _, a, _, _, _, _ => by simp [Cv] at a
/-- the same, asked by the sign != -/
theorem rcne_at : ∀ (n : Nat) (v w : Va) (x y : Value) (A : Around) (s : Shared), Cv s.heap v x → Cv s.heap w y → dat n v = true → dat n w = true → A.units + n < cLine → RcNeAt A s x y (!veq v w)
  | n, .non, w, x, y, A, s, a, b, _, hw, hu => by
    simp only [Cv] at a; subst a
    cases w with
    | non => simp only [Cv] at b; subst b; simp only [veq, Bool.not_true]; exact RcNeAt.none_none
    | bl _ => simp only [Cv] at b; subst b; simp only [veq, Bool.not_false]; exact RcNeAt.none_bool _
    | int _ => simp only [Cv] at b; obtain ⟨t, rfl⟩ := b; simp only [veq, Bool.not_false]; exact RcNeAt.none_int _ _
    | str _ => simp only [Cv] at b; obtain ⟨t, rfl⟩ := b; simp only [veq, Bool.not_false]; exact RcNeAt.none_str _ _
    | tup _ => simp only [Cv] at b; obtain ⟨l, its, rfl, p, _⟩ := b; simp only [veq, Bool.not_false]; exact RcNeAt.none_tuple p (by omega)
    | lst _ => simp only [Cv] at b; obtain ⟨l, its, rfl, p, _⟩ := b; simp only [veq, Bool.not_false]; exact RcNeAt.none_list p (by omega)
    | _ => simp [Cv] at b
  | n, .bl k, w, x, y, A, s, a, b, _, hw, hu => by
    simp only [Cv] at a; subst a
    cases w with
    | non => simp only [Cv] at b; subst b; simp only [veq, Bool.not_false]; exact RcNeAt.bool_none _
    | bl _ => simp only [Cv] at b; subst b; simp only [veq]; exact RcNeAt.bool_bool _ _
    | int j =>
      simp only [Cv] at b; obtain ⟨t, rfl⟩ := b; simp only [veq]
      have := RcNeAt.bool_int (A := A) (s := s) k j t
      rw [Bool.beq_eq_decide_eq] at this
      exact this
    | str _ => simp only [Cv] at b; obtain ⟨t, rfl⟩ := b; simp only [veq, Bool.not_false]; exact RcNeAt.bool_str _ _ _
    | tup _ => simp only [Cv] at b; obtain ⟨l, its, rfl, p, _⟩ := b; simp only [veq, Bool.not_false]; exact RcNeAt.bool_tuple _ p (by omega)
    | lst _ => simp only [Cv] at b; obtain ⟨l, its, rfl, p, _⟩ := b; simp only [veq, Bool.not_false]; exact RcNeAt.bool_list _ p (by omega)
    | _ => simp [Cv] at b
  | n, .int k, w, x, y, A, s, a, b, _, hw, hu => by
    simp only [Cv] at a; obtain ⟨t, rfl⟩ := a
    cases w with
    | non => simp only [Cv] at b; subst b; simp only [veq, Bool.not_false]; exact RcNeAt.int_none _ _
    | bl j =>
      simp only [Cv] at b; subst b; simp only [veq]
      have := RcNeAt.int_bool (A := A) (s := s) k t j
      rw [Bool.beq_eq_decide_eq] at this
      exact this
    | int j =>
      simp only [Cv] at b; obtain ⟨u, rfl⟩ := b; simp only [veq]
      have := RcNeAt.int_int (A := A) (s := s) k t j u
      rw [Bool.beq_eq_decide_eq] at this
      exact this
    | str _ => simp only [Cv] at b; obtain ⟨u, rfl⟩ := b; simp only [veq, Bool.not_false]; exact RcNeAt.int_str _ _ _ _
    | tup _ => simp only [Cv] at b; obtain ⟨l, its, rfl, p, _⟩ := b; simp only [veq, Bool.not_false]; exact RcNeAt.int_tuple _ _ p (by omega)
    | lst _ => simp only [Cv] at b; obtain ⟨l, its, rfl, p, _⟩ := b; simp only [veq, Bool.not_false]; exact RcNeAt.int_list _ _ p (by omega)
    | _ => simp [Cv] at b
  | n, .str k, w, x, y, A, s, a, b, _, hw, hu => by
    simp only [Cv] at a; obtain ⟨t, rfl⟩ := a
    cases w with
    | non => simp only [Cv] at b; subst b; simp only [veq, Bool.not_false]; exact RcNeAt.str_none _ _
    | bl j => simp only [Cv] at b; subst b; simp only [veq, Bool.not_false]; exact RcNeAt.str_bool _ _ _
    | int j => simp only [Cv] at b; obtain ⟨u, rfl⟩ := b; simp only [veq, Bool.not_false]; exact RcNeAt.str_int _ _ _ _
    | str j =>
      simp only [Cv] at b; obtain ⟨u, rfl⟩ := b; simp only [veq]
      have := RcNeAt.str_str (A := A) (s := s) (cS k) t (cS j) u
      have e : decide (k = j) = decide (cS k = cS j) := by
        by_cases q : k = j
        · subst q; simp
        · rw [decide_eq_false q, decide_eq_false fun z => q (cS_inj z)]
      rw [e]
      first | exact this | (rw [← Bool.beq_eq_decide_eq]; exact this)
    | tup _ => simp only [Cv] at b; obtain ⟨l, its, rfl, p, _⟩ := b; simp only [veq, Bool.not_false]; exact RcNeAt.str_tuple _ _ p (by omega)
    | lst _ => simp only [Cv] at b; obtain ⟨l, its, rfl, p, _⟩ := b; simp only [veq, Bool.not_false]; exact RcNeAt.str_list _ _ p (by omega)
    | _ => simp [Cv] at b
  | n + 1, .tup vs, w, x, y, A, s, a, b, hv, hw, hu => by
    have a0 := a
    simp only [Cv] at a; obtain ⟨l, its, rfl, p, q⟩ := a
    cases w with
    | non => simp only [Cv] at b; subst b; simp only [veq, Bool.not_false]; exact RcNeAt.tuple_none p (by omega)
    | bl j => simp only [Cv] at b; subst b; simp only [veq, Bool.not_false]; exact RcNeAt.tuple_bool _ p (by omega)
    | int j => simp only [Cv] at b; obtain ⟨u, rfl⟩ := b; simp only [veq, Bool.not_false]; exact RcNeAt.tuple_int _ _ p (by omega)
    | str j => simp only [Cv] at b; obtain ⟨u, rfl⟩ := b; simp only [veq, Bool.not_false]; exact RcNeAt.tuple_str _ _ p (by omega)
    | lst _ => simp only [Cv] at b; obtain ⟨l', its', rfl, p', _⟩ := b; simp only [veq, Bool.not_false]; exact RcNeAt.tuple_list p p' (by omega)
    | tup ws =>
      have b0 := b
      simp only [Cv] at b; obtain ⟨l', its', rfl, p', q'⟩ := b
      · simp only [veq]
        simp only [dat] at hv hw
        have n1 : vs.length = its.size := by simpa using q.length
        have n2 : ws.length = its'.size := by simpa using q'.length
        rw [veqs_eq, n1, n2]
        refine RcNeAt.tuples p p' (by omega) fun j j1 j2 => ?_
        have h1 : vs[j]? = some vs[j] := List.getElem?_eq_getElem (by omega)
        have h2 : ws[j]? = some ws[j] := List.getElem?_eq_getElem (by omega)
        obtain ⟨x1, e1, c1⟩ := q.get h1
        obtain ⟨x2, e2, c2⟩ := q'.get h2
        have f1 : its[j] = x1 := by
          have : its.toList[j]? = some its[j] := by simp [j1]
          rw [this] at e1; exact Option.some.inj e1
        have f2 : its'[j] = x2 := by
          have : its'.toList[j]? = some its'[j] := by simp [j2]
          rw [this] at e2; exact Option.some.inj e2
        rw [f1, f2]
        simp only [atEq, h1, h2]
        exact eq_at n _ _ _ _ A.in1 s c1 c2 (List.all_eq_true.mp hv _ (List.getElem_mem _)) (List.all_eq_true.mp hw _ (List.getElem_mem _)) (by show A.units + 1 + n < cLine; omega)
    | _ => simp [Cv] at b
  | n + 1, .lst vs, w, x, y, A, s, a, b, hv, hw, hu => by
    have a0 := a
    simp only [Cv] at a; obtain ⟨l, its, rfl, p, q⟩ := a
    cases w with
    | non => simp only [Cv] at b; subst b; simp only [veq, Bool.not_false]; exact RcNeAt.list_none p (by omega)
    | bl j => simp only [Cv] at b; subst b; simp only [veq, Bool.not_false]; exact RcNeAt.list_bool _ p (by omega)
    | int j => simp only [Cv] at b; obtain ⟨u, rfl⟩ := b; simp only [veq, Bool.not_false]; exact RcNeAt.list_int _ _ p (by omega)
    | str j => simp only [Cv] at b; obtain ⟨u, rfl⟩ := b; simp only [veq, Bool.not_false]; exact RcNeAt.list_str _ _ p (by omega)
    | tup _ => simp only [Cv] at b; obtain ⟨l', its', rfl, p', _⟩ := b; simp only [veq, Bool.not_false]; exact RcNeAt.list_tuple p p' (by omega)
    | lst ws =>
      have b0 := b
      simp only [Cv] at b; obtain ⟨l', its', rfl, p', q'⟩ := b
      · simp only [veq]
        simp only [dat] at hv hw
        have n1 : vs.length = its.size := by simpa using q.length
        have n2 : ws.length = its'.size := by simpa using q'.length
        by_cases hs : its.size = its'.size
        · have e : veqs vs ws = (List.range its.size).all (atEq vs ws) := by
            rw [veqs_eq, n1, n2, hs]; simp
          rw [e]
          refine RcNeAt.lists p p' hs (by omega) fun j j1 j2 => ?_
          have h1 : vs[j]? = some vs[j] := List.getElem?_eq_getElem (by omega)
          have h2 : ws[j]? = some ws[j] := List.getElem?_eq_getElem (by omega)
          obtain ⟨x1, e1, c1⟩ := q.get h1
          obtain ⟨x2, e2, c2⟩ := q'.get h2
          have f1 : its[j] = x1 := by
            have : its.toList[j]? = some its[j] := by simp [j1]
            rw [this] at e1; exact Option.some.inj e1
          have f2 : its'[j] = x2 := by
            have : its'.toList[j]? = some its'[j] := by simp [j2]
            rw [this] at e2; exact Option.some.inj e2
          rw [f1, f2]
          simp only [atEq, h1, h2]
          exact eq_at n _ _ _ _ A.in1 s c1 c2 (List.all_eq_true.mp hv _ (List.getElem_mem _)) (List.all_eq_true.mp hw _ (List.getElem_mem _)) (by show A.units + 1 + n < cLine; omega)
        · rw [veqs_len (by omega), Bool.not_false]
          exact RcNeAt.lists_lengths p p' (by simpa using hs) (by omega)
    | _ => simp [Cv] at b
  | 0, .tup _, _, _, _, _, _, _, _, h, _, _ => by simp [dat] at h
  | 0, .lst _, _, _, _, _, _, _, _, h, _, _ => by simp [dat] at h
  | n, .lck _, _, _, _, _, _, a, _, _, _, _ => by simp [Cv] at a
  | n, .dct _, _, _, _, _, _, a, _, _, _, _ => by simp [Cv] at a
  | n, .ins _ _, _, _, _, _, _, a, _, _, _, _ => by simp [Cv] at a
  | n, .ref _, _, _, _, _, _, a, _, _, _, _ => by simp [Cv] at a
  | n, .fn _, _, _, _, _, _, a, _, _, _, _ => by simp [Cv] at a
  | n, .clo _ _, _, _, _, _, _, a, _, _, _, _ => by simp [Cv] at a
  | n, .exc _ _, _, _, _, _, _, a, _, _, _, _ => by simp [Cv] at a
end M
end
section
set_option Elab.async false
set_option linter.all false
set_option maxRecDepth 10000
set_option autoImplicit false
/-! Sem8: comparisons, tests. -/
namespace M
open PySem PySem.Spec PyProof.Rows L2 PySem.SeqAt
/-- a content at a value's place -/
def CtR (W : Wl) (T : Addr → Prop) (η : List Addr) (H : Hp) (c : Va) (u : V) : Prop := match c with
  | .lst vs => ∃ a us, u = .ref a ∧ H a = some (.lst us) ∧ Reps W T η H vs us
  | .dct kvs => ∃ a us, u = .ref a ∧ H a = some (.dK us) ∧ RepK W T η H kvs us
  | .ins D fs => ∃ a dx us, u = .ref a ∧ H a = some (.ins (W.adr D) dx us) ∧ RepF W T η H fs us
  | c => Rep W T η H c u
section
variable {W : Wl} {hid : Addr → Prop} {η : List Addr} {st : Sto} {H : Hp} {v : Va} {u : V}
theorem Rep.ct (rel : Rel W hid η st H) (r : Rep W (Tb hid η st) η H v u) : CtR W (Tb hid η st) η H (rd st v) u := by
  cases e : rd st v with
  | lst vs => exact rd_lst rel e r
  | dct vs => exact rd_dct rel e r
  | ins D fs => exact rd_ins rel e r
  | _ =>
    rcases rd_cases v st with ⟨n, o, rfl, _, a, q⟩ | q
    · rw [e] at q; cases o <;> first | (cases q; done) | (rw [← q] at e; simp only [CtR]; exact q ▸ r) | (cases a)
    · rw [e] at q; subst q; exact r
end
section
variable {X : Cx} {pins : List (Addr × Obj)} {σ : L2.St} {H : Hp} {s : Shared} {W : Wl} {T : Addr → Prop} {η : List Addr}
mutual
theorem Rep.cv (I : Inv X pins σ H s) (hK : X.K = W.K) : ∀ (n : Nat) (v : Va) (u : V) (x : Value), dat n v = true → Rep W T η H v u → RelV u x → Cv s.heap v x
  | _, .non, _, _, _, r, q => by simp only [Rep] at r; subst r; simp only [Cv]; exact q
  | _, .bl _, _, _, _, r, q => by simp only [Rep] at r; subst r; simp only [Cv]; exact q
  | _, .int _, _, _, _, r, q => by simp only [Rep] at r; subst r; simp only [Cv]; exact q
  | _, .str _, _, _, _, r, q => by simp only [Rep] at r; subst r; simp only [Cv]; exact q
  | n + 1, .tup vs, _, _, h, r, q => by
    simp only [Rep] at r; obtain ⟨a, us, rfl, f, r⟩ := r
    cases q
    simp only [dat] at h
    obtain ⟨its, rv, p, _⟩ := I.tuple (by rw [hK]; exact f.sq)
    simp only [Cv]
    exact ⟨a, its.toArray, rfl, p, by simpa using Reps.cv I hK n vs us its h r rv⟩
  | n + 1, .lst vs, _, _, h, r, q => by
    simp only [Rep] at r; obtain ⟨a, us, rfl, f, r⟩ := r
    cases q
    simp only [dat] at h
    obtain ⟨its, rv, p, _⟩ := I.list (SqL.of f.1)
    simp only [Cv]
    exact ⟨a, its.toArray, rfl, p.isList, by simpa using Reps.cv I hK n vs us its h r rv⟩
  | 0, .tup _, _, _, h, _, _ => by simp [dat] at h
  | 0, .lst _, _, _, h, _, _ => by simp [dat] at h
  | n, .lck _, _, _, h, _, _ => by cases n <;> simp [dat] at h
  | n, .dct _, _, _, h, _, _ => by cases n <;> simp [dat] at h
  | n, .ins _ _, _, _, h, _, _ => by cases n <;> simp [dat] at h
  | n, .ref _, _, _, h, _, _ => by cases n <;> simp [dat] at h
  | n, .fn _, _, _, h, _, _ => by cases n <;> simp [dat] at h
  | n, .clo _ _, _, _, h, _, _ => by cases n <;> simp [dat] at h
  | n, .exc _ _, _, _, h, _, _ => by cases n <;> simp [dat] at h
theorem Reps.cv (I : Inv X pins σ H s) (hK : X.K = W.K) : ∀ (n : Nat) (vs : List Va) (us : List V) (xs : List Value), vs.all (dat n) = true → Reps W T η H vs us → Vals us xs → Cvs s.heap vs xs
  | _, [], _, _, _, r, q => by
    simp only [Reps] at r; subst r; cases q; simp [Cvs]
  | n, v :: vs, _, _, h, r, q => by
    simp only [Reps] at r; obtain ⟨u, us, rfl, r1, r2⟩ := r
    rw [List.all_cons, Bool.and_eq_true] at h
    cases q with
    | cons q1 q2 =>
      simp only [Cvs]
      exact ⟨_, _, rfl, Rep.cv I hK n v u _ h.1 r1 q1, Reps.cv I hK n vs us _ h.2 r2 q2⟩
end
theorem CtR.cv (I : Inv X pins σ H s) (hK : X.K = W.K) {n : Nat} {v : Va} {u : V} {x : Value} (h : dat n v = true) (r : CtR W T η H v u) (q : RelV u x) : Cv s.heap v x := by
  cases v with
  | lst vs =>
    obtain ⟨a, us, rfl, f, r⟩ := r
    cases q
    cases n with
    | zero => simp [dat] at h
    | succ n =>
      simp only [dat] at h
      obtain ⟨its, rv, p, _⟩ := I.list (SqL.of f)
      simp only [Cv]
      exact ⟨a, its.toArray, rfl, p.isList, by simpa using Reps.cv I hK n vs us its h r rv⟩
  | dct _ => cases n <;> simp [dat] at h
  | ins _ _ => cases n <;> simp [dat] at h
  | _ => exact Rep.cv (T := T) (η := η) I hK n _ u x h r q
end
section
variable {X : Cx} {C : Cfg}
/-- of two values by their contents -/
def rCt (W : Wl) (P : Va → Va → Option Bool) : R2 := fun x y H Q => ∃ T η c d b, CtR W T η H c x ∧ CtR W T η H d y ∧ P c d = some b ∧ Q (.bl b) H
theorem eqv_some {c d : Va} {b : Bool} (h : eqv? c d = some b) : dat Dp c = true ∧ dat Dp d = true ∧ b = veq c d := by
  unfold eqv? at h
  split at h
  · rename_i hc
    rw [Bool.and_eq_true] at hc
    cases h
    exact ⟨hc.1, hc.2, rfl⟩
  · cases h
theorem op_eqC (hK : X.K = C.W.K) (hu : X.A.units + 64 < cLine) : OpR X (compareOp .Eq) (rCt C.W eqv?) := by
  intro pins s σ H x y v u Q I rx ry h
  obtain ⟨T, η, c, d, b, hc, hd, hb, q⟩ := h
  obtain ⟨d1, d2, rfl⟩ := eqv_some hb
  exact rc_at Dp c d v u X.A s (hc.cv I hK d1 rx) (hd.cv I hK d2 ry) d1 d2 (by unfold Dp; omega) X.prog X.w X.xe _ ⟨.bl _, H, I, rfl, q⟩
theorem op_neC (hK : X.K = C.W.K) (hu : X.A.units + 64 < cLine) : OpR X (compareOp .NotEq) (rCt C.W fun c d => (eqv? c d).map (!·)) := by
  intro pins s σ H x y v u Q I rx ry h
  obtain ⟨T, η, c, d, b, hc, hd, hb, q⟩ := h
  replace hb : (eqv? c d).map (!·) = some b := hb
  cases e : eqv? c d with
  | none => rw [e] at hb; cases hb
  | some b' =>
    rw [e] at hb; cases hb
    obtain ⟨d1, d2, rfl⟩ := eqv_some e
    exact rcne_at Dp c d v u X.A s (hc.cv I hK d1 rx) (hd.cv I hK d2 ry) d1 d2 (by unfold Dp; omega) X.prog X.w X.xe _ ⟨.bl _, H, I, rfl, q⟩
/-- what is asked of a place of a row -/
noncomputable def hasV (h : Heap) (x : Va) (w : Value) : Bool := @decide (∃ y, Cv h y w ∧ veq y x = true) (Classical.propDecidable _)
theorem hasV_eq {h : Heap} {x y : Va} {w : Value} (c : Cv h y w) : hasV h x w = veq y x := by
  unfold hasV
  cases e : veq y x with
  | true => exact @decide_eq_true _ (Classical.propDecidable _) ⟨y, c, e⟩
  | false =>
    refine @decide_eq_false _ (Classical.propDecidable _) fun ⟨z, cz, ez⟩ => ?_
    rw [Cv.uniq z y w cz c, e] at ez; cases ez
theorem any_has {h : Heap} {x : Va} : ∀ {ys : List Va} {ws : List Value}, Cvs h ys ws → ws.any (hasV h x) = ys.any fun y => veq y x
  | [], _, q => by simp only [Cvs] at q; subst q; rfl
  | y :: ys, _, q => by
    simp only [Cvs] at q; obtain ⟨w, ws, rfl, q1, q2⟩ := q
    rw [List.any_cons, List.any_cons, hasV_eq q1, any_has q2]
theorem mem_has {h : Heap} {ys : List Va} : ∀ {ws : List Value}, Cvs h ys ws → ∀ w ∈ ws, ∃ y ∈ ys, Cv h y w := by
  induction ys with
  | nil => intro ws q w hw; simp only [Cvs] at q; subst q; cases hw
  | cons y ys ih =>
    intro ws q w hw
    simp only [Cvs] at q; obtain ⟨w', ws', rfl, q1, q2⟩ := q
    rcases List.mem_cons.mp hw with rfl | hw
    · exact ⟨y, List.mem_cons_self, q1⟩
    · obtain ⟨z, hz, c⟩ := ih q2 w hw
      exact ⟨z, List.mem_cons_of_mem _ hz, c⟩
def inRow (a b : Va) : Option Bool := match b with
  | .lst ys | .tup ys => if dat Dp a && ys.all (dat Dp) then some (ys.any fun y => veq y a) else none
  | _ => none
theorem op_inC (hK : X.K = C.W.K) (hu : X.A.units + 64 < cLine) : OpR X (compareOp .In) (rCt C.W inRow) ∧ OpR X (compareOp .NotIn) (rCt C.W fun c d => (inRow c d).map (!·)) := by
  have key : ∀ {pins : List (Addr × Obj)} {s : Shared} {σ : L2.St} {H : Hp} {x y : V} {v u : Value} {T : Addr → Prop} {η : List Addr} {c d : Va} {b : Bool}, Inv X pins σ H s → RelV x v → RelV y u → CtR C.W T η H c x → CtR C.W T η H d y → inRow c d = some b →
      (∃ a its, u = .ref a ∧ s.heap.IsList a its ∧ its.any (hasV s.heap c) = b ∧ ∀ w ∈ its, ∀ A : Around, A.units + Dp < cLine → EqAt A s w v (hasV s.heap c w)) ∨
      (∃ a its, u = .ref a ∧ s.heap.IsTuple a its ∧ its.any (hasV s.heap c) = b ∧ ∀ w ∈ its, ∀ A : Around, A.units + Dp < cLine → EqAt A s w v (hasV s.heap c w)) := by
    intro pins s σ H x y v u T η c d b I rx ry hc hd hb
    have fin : ∀ (ys : List Va) (ws : Array Value), Cvs s.heap ys ws.toList → dat Dp c = true → ys.all (dat Dp) = true → ws.any (hasV s.heap c) = (ys.any fun y => veq y c) ∧ ∀ w ∈ ws, ∀ A : Around, A.units + Dp < cLine → EqAt A s w v (hasV s.heap c w) := fun ys ws q d1 d2 => by
      refine ⟨by rw [← any_has q]; simp, fun w hw A hA => ?_⟩
      obtain ⟨z, hz, cz⟩ := mem_has q w (by simpa using hw)
      rw [hasV_eq cz]
      exact eq_at Dp z c w v A s cz (hc.cv I hK d1 rx) (List.all_eq_true.mp d2 z hz) d1 hA
    unfold inRow at hb
    split at hb
    · rename_i ys
      split at hb
      · rename_i hcond
        rw [Bool.and_eq_true] at hcond
        cases hb
        obtain ⟨a, us, rfl, f, r⟩ := hd
        cases ry
        obtain ⟨its, rv, p, _⟩ := I.list (SqL.of f)
        have q : Cvs s.heap ys its.toArray.toList := by simpa using Reps.cv I hK Dp ys us its hcond.2 r rv
        exact .inl ⟨a, its.toArray, rfl, p.isList, fin ys its.toArray q hcond.1 hcond.2⟩
      · cases hb
    · rename_i ys
      split at hb
      · rename_i hcond
        rw [Bool.and_eq_true] at hcond
        cases hb
        have hd : Rep C.W T η H (.tup ys) y := hd
        simp only [Rep] at hd
        obtain ⟨a, us, rfl, f, r⟩ := hd
        cases ry
        obtain ⟨its, rv, p, _⟩ := I.tuple (by rw [hK]; exact f.sq)
        have q : Cvs s.heap ys its.toArray.toList := by simpa using Reps.cv I hK Dp ys us its hcond.2 r rv
        exact .inr ⟨a, its.toArray, rfl, p, fin ys its.toArray q hcond.1 hcond.2⟩
      · cases hb
    · cases hb
  constructor
  · intro pins s σ H x y v u Q I rx ry h
    obtain ⟨T, η, c, d, b, hc, hd, hb, q⟩ := h
    rcases key I rx ry hc hd hb with ⟨a, its, rfl, p, rfl, m⟩ | ⟨a, its, rfl, p, rfl, m⟩
    · exact SeqAt.in_listAt (hasV s.heap c) p (fun w hw => m w hw _ (by simp only [Around.in1_units]; unfold Dp; omega)) ⟨.bl _, H, I, rfl, q⟩
    · exact SeqAt.in_tupleAt (hasV s.heap c) p (fun w hw => m w hw _ (by simp only [Around.in1_units]; unfold Dp; omega)) ⟨.bl _, H, I, rfl, q⟩
  · intro pins s σ H x y v u Q I rx ry h
    obtain ⟨T, η, c, d, b, hc, hd, hb, q⟩ := h
    replace hb : (inRow c d).map (!·) = some b := hb
    cases e : inRow c d with
    | none => rw [e] at hb; cases hb
    | some b' =>
      rw [e] at hb; cases hb
      rcases key I rx ry hc hd e with ⟨a, its, rfl, p, rfl, m⟩ | ⟨a, its, rfl, p, rfl, m⟩
      · exact SeqAt.notIn_listAt (hasV s.heap c) p (fun w hw => m w hw _ (by simp only [Around.in1_units]; unfold Dp; omega)) ⟨.bl _, H, I, rfl, q⟩
      · exact SeqAt.notIn_tupleAt (hasV s.heap c) p (fun w hw => m w hw _ (by simp only [Around.in1_units]; unfold Dp; omega)) ⟨.bl _, H, I, rfl, q⟩
end
end M
end
section
set_option Elab.async false
set_option linter.all false
set_option maxRecDepth 10000
set_option autoImplicit false
/-! Sem9: comparisons as expressions, tests, and, or, not. -/
namespace M
open PySem PySem.Spec PyProof.Rows L2 PySem.SeqAt
/-! ### dicts with plain keys -/
section
variable {W : Wl} {T : Addr → Prop} {η : List Addr} {H : Hp}
theorem keyV_eq {k k' : Va} {c c' : Key} (h : keyV k = some c) (h' : keyV k' = some c') : veq k k' = decide (c = c') := by
  cases k with
  | int i =>
    cases h
    cases k' with
    | int j => cases h'; simp [veq]
    | str j => cases h'; simp [veq]
    | _ => cases h'
  | str i =>
    cases h
    cases k' with
    | int j => cases h'; simp [veq]
    | str j =>
      cases h'
      simp only [veq]
      by_cases q : i = j
      · subst q; simp
      · rw [decide_eq_false q, decide_eq_false]
        intro z; exact q (cS_inj (Sum.inr.inj z))
    | _ => cases h'
  | _ => cases h
theorem keyV_rep {k : Va} {c : Key} {u : V} (h : keyV k = some c) (r : Rep W T η H k u) : u = kV c := by
  cases k with
  | int i => cases h; simpa [Rep, kV] using r
  | str i => cases h; simpa [Rep, kV] using r
  | _ => cases h
theorem isKey_some {k : Va} (h : isKey k = true) : ∃ c, keyV k = some c := by
  cases k <;> first | exact ⟨_, rfl⟩ | cases h
theorem RepK.get : ∀ {kvs : List (Va × Va)} {us : List (Key × V)} {k : Va} {c : Key}, RepK W T η H kvs us → keyV k = some c →
    (getK kvs k = none ∧ valV us c = none) ∨ ∃ v u, getK kvs k = some v ∧ valV us c = some u ∧ Rep W T η H v u
  | [], _, _, _, r, _ => by simp only [RepK] at r; subst r; exact .inl ⟨rfl, rfl⟩
  | (k', v) :: kvs, _, k, c, r, h => by
    simp only [RepK] at r
    obtain ⟨c', u, us, rfl, hk, r1, r2⟩ := r
    have e := keyV_eq hk h
    by_cases q : c' = c
    · refine .inr ⟨v, u, ?_, ?_, r1⟩
      · unfold getK; rw [List.find?_cons, show veq (k', v).1 k = true by rw [e]; exact decide_eq_true q]; rfl
      · unfold valV; rw [List.find?_cons, show decide ((c', u).1 = c) = true from decide_eq_true q]; rfl
    · have e1 : getK ((k', v) :: kvs) k = getK kvs k := by unfold getK; rw [List.find?_cons, show veq (k', v).1 k = false by rw [e]; exact decide_eq_false q]
      have e2 : valV ((c', u) :: us) c = valV us c := by unfold valV; rw [List.find?_cons, show decide ((c', u).1 = c) = false from decide_eq_false q]
      rw [e1, e2]
      exact RepK.get r2 h
theorem RepK.length : ∀ {kvs : List (Va × Va)} {us : List (Key × V)}, RepK W T η H kvs us → kvs.length = us.length
  | [], _, r => by simp only [RepK] at r; subst r; rfl
  | (k', v) :: kvs, _, r => by
    simp only [RepK] at r
    obtain ⟨c', u, us, rfl, hk, r1, r2⟩ := r
    simp [RepK.length r2]
theorem RepK.any : ∀ {kvs : List (Va × Va)} {us : List (Key × V)} {k : Va} {c : Key}, RepK W T η H kvs us → keyV k = some c → (kvs.any fun p => veq p.1 k) = us.any fun kv => decide (kv.1 = c)
  | [], _, _, _, r, _ => by simp only [RepK] at r; subst r; rfl
  | (k', v) :: kvs, _, k, c, r, h => by
    simp only [RepK] at r
    obtain ⟨c', u, us, rfl, hk, r1, r2⟩ := r
    rw [List.any_cons, List.any_cons, RepK.any r2 h, keyV_eq hk h]
theorem RepK.repl : ∀ {kvs : List (Va × Va)} {us : List (Key × V)} {k : Va} {c : Key} {v : Va} {u : V}, RepK W T η H kvs us → keyV k = some c → Rep W T η H v u →
    RepK W T η H (kvs.map fun p => if veq p.1 k then (p.1, v) else p) (us.map fun kv => if kv.1 = c then (kv.1, u) else kv)
  | [], _, _, _, _, _, r, _, _ => by simp only [RepK] at r; subst r; simp [RepK]
  | (k', v') :: kvs, _, k, c, v, u, r, h, rv => by
    simp only [RepK] at r
    obtain ⟨c', u', us, rfl, hk, r1, r2⟩ := r
    have e := keyV_eq hk h
    rw [List.map_cons, List.map_cons]
    by_cases q : c' = c
    · rw [if_pos (show veq (k', v').1 k = true by rw [e]; exact decide_eq_true q), if_pos q]
      simp only [RepK]
      exact ⟨c', u, _, rfl, hk, rv, RepK.repl r2 h rv⟩
    · rw [if_neg (show ¬ veq (k', v').1 k = true by rw [e]; simp [q]), if_neg q]
      simp only [RepK]
      exact ⟨c', u', _, rfl, hk, r1, RepK.repl r2 h rv⟩
theorem RepK.snoc : ∀ {kvs : List (Va × Va)} {us : List (Key × V)} {k : Va} {c : Key} {v : Va} {u : V}, RepK W T η H kvs us → keyV k = some c → Rep W T η H v u → RepK W T η H (kvs ++ [(k, v)]) (us ++ [(c, u)])
  | [], _, _, _, _, _, r, h, rv => by simp only [RepK] at r; subst r; simp only [List.nil_append, RepK]; exact ⟨_, _, _, rfl, h, rv, rfl⟩
  | (k', v') :: kvs, _, k, c, v, u, r, h, rv => by
    simp only [RepK] at r
    obtain ⟨c', u', us, rfl, hk, r1, r2⟩ := r
    simp only [List.cons_append, RepK]
    exact ⟨c', u', _, rfl, hk, r1, RepK.snoc r2 h rv⟩
theorem RepK.put {kvs : List (Va × Va)} {us : List (Key × V)} {k : Va} {c : Key} {v : Va} {u : V} (r : RepK W T η H kvs us) (h : keyV k = some c) (rv : Rep W T η H v u) : RepK W T η H (putK kvs k v) (L2.putK us c u) := by
  unfold putK L2.putK
  rw [r.any h]
  split
  · exact r.repl h rv
  · exact r.snoc h rv
/-- the dict at a, asked for a key -/
theorem dget_of {kvs : List (Va × Va)} {a : Addr} {k : Va} {y : V} {us : List (Key × V)} (h : H a = some (.dK us)) (r : RepK W T η H kvs us) (hk : isKey k = true) (ry : Rep W T η H k y) :
    ∃ o, DGet H a y o ∧ ((getK kvs k = none ∧ o = none) ∨ ∃ v u, getK kvs k = some v ∧ o = some u ∧ Rep W T η H v u) := by
  obtain ⟨c, hc⟩ := isKey_some hk
  have ey := keyV_rep hc ry
  subst ey
  exact ⟨_, DGet.k h, r.get hc⟩
end
/-! ### objects without an own == -/
section
open PySem.W
theorem findBy_no {es : Array DictEntry} {x : Str} (h : ∀ e ∈ es.toList, ∀ n t, e.key = .str n t → n ≠ x) (hs : ∀ e ∈ es.toList, ∃ n t, e.key = .str n t) : nsFind es x = none := by
  have hz : es.find? (fun e => e.key.isStr x) = none := by
    rw [Array.find?_eq_none]
    intro e he
    have he : e ∈ es.toList := by simpa using he
    obtain ⟨n, t, k⟩ := hs e he
    rw [k]
    have := h e he n t k
    simpa [Value.isStr] using this
  show (es.find? fun e => e.key.isStr x).map _ = none
  rw [hz]; rfl
theorem cmpCls_of {K : Frag} {h : Heap} {C : Addr} (X : K.In h) (c : cmpK K C = true) : CmpCls h C := by
  unfold cmpK at c
  split at c
  · rename_i cv dd cd sl e
    simp only [Bool.and_eq_true, decide_eq_true_eq, Bool.not_eq_true'] at c
    obtain ⟨⟨⟨⟨⟨⟨rfl, c2⟩, c3⟩, c4⟩, c5⟩, c6⟩, c7⟩ := c
    split at c6
    · rename_i k0 k1 k2 k3 n k5 esl
      simp only [decide_eq_true_eq] at c6
      subst c6
      split at c7
      · rename_i _ _ es ep _ e2
        rw [List.all_eq_true] at c7
        have keys : ∀ en ∈ es.toList, ∃ n t, en.key = .str n t ∧ n ≠ ("__eq__" : Str) ∧ n ≠ ("__ne__" : Str) := fun en he => by
          have q := c7 en he
          cases ek : en.key with
          | str n t =>
            rw [ek] at q
            simp only [Bool.and_eq_true, Bool.not_eq_true', decide_eq_false_iff_not] at q
            exact ⟨n, t, rfl, q.1, q.2⟩
          | _ => rw [ek] at q; cases q
        have sk : ∀ en ∈ es.toList, ∃ n t, en.key = .str n t := fun en he => let ⟨n, t, k, _⟩ := keys en he; ⟨n, t, k⟩
        refine ⟨cd.ns, nsFind es, ⟨?_, ⟨_, es, ep, X _ _ e2, rfl, fun en he => sk en (by simpa using he), fun _ => rfl⟩⟩, findBy_no (fun en he n t k => ?_) sk, findBy_no (fun en he n t k => ?_) sk⟩
        · obtain ⟨nm, bs, mro, ns, q, hd, sn, sub, ab, col, del⟩ := cd
          simp only at c2 c3 c4 c5
          subst c2 c3 c4 c5
          refine ⟨nm, q, bs, sn, sub, col, dd, k0, k1, k2, k3, k5, ?_⟩
          rw [X _ _ e]
          have : sl = #[k0, k1, k2, k3, some (.builtin "object.__new__"), k5] := by
            rw [← Array.toArray_toList (xs := sl), esl]
          rw [this]
        · obtain ⟨n', t', k', h1, _⟩ := keys en he
          rw [k] at k'; cases k'; exact h1
        · obtain ⟨n', t', k', _, h1⟩ := keys en he
          rw [k] at k'; cases k'; exact h1
      · cases c7
    · cases c6
  · cases c
/-- two objects -/
def rId (K : Frag) (g : Bool → Bool) : R2 := fun x y H Q => ∃ a b C D dx dy fs gs, x = .ref a ∧ y = .ref b ∧ H a = some (.ins C dx fs) ∧ H b = some (.ins D dy gs) ∧ cmpK K C = true ∧ cmpK K D = true ∧ Q (.bl (g (decide (a = b)))) H
theorem objM_inst {h : Heap} {a dx C : Addr} {mA : Str → Option Value} (J : ObjM h a dx C mA) : h.Inst a C mA :=
  ⟨_, J.obj, rfl, fun c z => (by cases z), .inr ⟨dx, rfl, J.ne, J.ns⟩⟩
theorem op_idEq {X : Cx} (hu : X.A.units + 64 < cLine) : OpR X (compareOp .Eq) (rId X.K id) := by
  intro pins s σ H x y v u Q I rx ry h
  obtain ⟨a, b, Ca, D, dx, dy, fs, gs, rfl, rfl, ha, hb, ka, kb, q⟩ := h
  cases rx
  cases ry
  obtain ⟨mA, J, _⟩ := ins_get I.hok ha
  obtain ⟨mB, J', _⟩ := ins_get I.hok hb
  have X1 := cmpInst_of (cmpCls_of I.kIn ka) (objM_inst J)
  have X2 := cmpInst_of (cmpCls_of I.kIn kb) (objM_inst J')
  obtain ⟨hh, g, d, t, os⟩ := s
  by_cases e : a = b
  · subst e
    exact compareOp_eq_same PySem.F.cmp_object X1 (by omega) ⟨.bl _, H, I, rfl, by simpa using q⟩
  · exact compareOp_eq_other PySem.F.cmp_object PySem.F.cmp_object X1 X2 e (by omega) ⟨.bl _, H, I, rfl, by simpa [e] using q⟩
theorem op_idNe {X : Cx} (hu : X.A.units + 64 < cLine) : OpR X (compareOp .NotEq) (rId X.K (!·)) := by
  intro pins s σ H x y v u Q I rx ry h
  obtain ⟨a, b, Ca, D, dx, dy, fs, gs, rfl, rfl, ha, hb, ka, kb, q⟩ := h
  cases rx
  cases ry
  obtain ⟨mA, J, _⟩ := ins_get I.hok ha
  obtain ⟨mB, J', _⟩ := ins_get I.hok hb
  have X1 := cmpInst_of (cmpCls_of I.kIn ka) (objM_inst J)
  have X2 := cmpInst_of (cmpCls_of I.kIn kb) (objM_inst J')
  obtain ⟨hh, g, d, t, os⟩ := s
  by_cases e : a = b
  · subst e
    exact compareOp_ne_same PySem.F.cmp_object X1 (by omega) ⟨.bl _, H, I, rfl, by simpa using q⟩
  · exact compareOp_ne_other PySem.F.cmp_object PySem.F.cmp_object X1 X2 e (by omega) ⟨.bl _, H, I, rfl, by simpa [e] using q⟩
/-- the classes that the language compares by what they are -/
def IdnOk (C : Cfg) : Prop := ∀ D, C.G.idn.contains D = true → cmpK C.W.K (C.W.adr D) = true
theorem idq_at {C : Cfg} {hid : Addr → Prop} {η : List Addr} {st : Sto} {H : Hp} {x y : Va} {u w : V} {b : Bool} (ok : IdnOk C) (rel : Rel C.W hid η st H) (ru : Rep C.W (Tb hid η st) η H x u) (rw' : Rep C.W (Tb hid η st) η H y w) (e : idq C.G st x y = some b) :
    ∃ a a' D D' dx dy fs gs, u = .ref a ∧ w = .ref a' ∧ H a = some (.ins D dx fs) ∧ H a' = some (.ins D' dy gs) ∧ cmpK C.W.K D = true ∧ cmpK C.W.K D' = true ∧ decide (a = a') = b := by
  unfold idq at e
  split at e
  · rename_i n m
    split at e
    · rename_i D fs D' gs e1 e2
      split at e
      · rename_i hc
        rw [Bool.and_eq_true] at hc
        cases e
        simp only [Rep] at ru rw'
        obtain ⟨a, ea, rfl⟩ := ru
        obtain ⟨a', ea', rfl⟩ := rw'
        obtain ⟨dx, us, h1, _⟩ := rel.obs n _ a e1 ea
        obtain ⟨dy, ws, h2, _⟩ := rel.obs m _ a' e2 ea'
        refine ⟨a, a', _, _, dx, dy, us, ws, rfl, rfl, h1, h2, ok _ hc.1, ok _ hc.2, ?_⟩
        by_cases q : n = m
        · subst q
          rw [ea] at ea'; cases ea'
          simp
        · rw [decide_eq_false q, decide_eq_false]
          intro z; subst z
          exact q (rel.inj n m _ _ a e1 e2 rfl rfl ea ea')
      · cases e
    · cases e
  · cases e
end
/-! ### comparisons -/
section
variable {X : Cx} {C : Cfg}
/-- what a comparison's rule is to give -/
def CmpR (C : Cfg) (op : Cop) (r : R2) : Prop := ∀ (hid : Addr → Prop) (η : List Addr) (st : Sto) (H : Hp) (x y : Va) (b : Bool) (u w : V) (Q : VK), Rel C.W hid η st H → Rep C.W (Tb hid η st) η H x u → Rep C.W (Tb hid η st) η H y w →
  cmpV C.G op st x y = some b → Q (.bl b) H → r u w H Q
def rEq2 (W : Wl) : R2 := fun x y H Q => rCt W eqv? x y H Q ∨ rId W.K id x y H Q
def rNe2 (W : Wl) : R2 := fun x y H Q => rCt W (fun c d => (eqv? c d).map (!·)) x y H Q ∨ rId W.K (!·) x y H Q
theorem op_eq2 (hK : X.K = C.W.K) (hu : X.A.units + 64 < cLine) : OpR X (compareOp .Eq) (rEq2 C.W) := (op_eqC hK hu).or (by have := op_idEq (X := X) hu; rw [hK] at this; exact this)
theorem op_ne2 (hK : X.K = C.W.K) (hu : X.A.units + 64 < cLine) : OpR X (compareOp .NotEq) (rNe2 C.W) := (op_neC hK hu).or (by have := op_idNe (X := X) hu; rw [hK] at this; exact this)
theorem cr_eq (ok : IdnOk C) : CmpR C .eq (rEq2 C.W) := fun hid η st H x y b u w Q rel ru rw' e q => by
  simp only [cmpV] at e
  split at e
  · rename_i b' e1
    cases e
    obtain ⟨a, a', D, D', dx, dy, fs, gs, rfl, rfl, h1, h2, k1, k2, eb⟩ := idq_at ok rel ru rw' e1
    exact .inr ⟨a, a', D, D', dx, dy, fs, gs, rfl, rfl, h1, h2, k1, k2, by rw [eb]; exact q⟩
  · exact .inl ⟨_, _, _, _, b, ru.ct rel, rw'.ct rel, e, q⟩
theorem cr_ne (ok : IdnOk C) : CmpR C .ne (rNe2 C.W) := fun hid η st H x y b u w Q rel ru rw' e q => by
  simp only [cmpV] at e
  split at e
  · rename_i b' e1
    cases e
    obtain ⟨a, a', D, D', dx, dy, fs, gs, rfl, rfl, h1, h2, k1, k2, eb⟩ := idq_at ok rel ru rw' e1
    exact .inr ⟨a, a', D, D', dx, dy, fs, gs, rfl, rfl, h1, h2, k1, k2, by rw [eb]; exact q⟩
  · exact .inl ⟨_, _, _, _, b, ru.ct rel, rw'.ct rel, e, q⟩
theorem cr_lt : CmpR C .lt (rI0 fun i j => .bl (decide (i < j))) := by
  intro hid η st H x y b u w Q rel ru rw' e q
  simp only [cmpV, cmpop] at e
  split at e
  · rename_i i j e1 e2
    obtain ⟨_, rfl⟩ := rd_int e1 ru
    obtain ⟨_, rfl⟩ := rd_int e2 rw'
    cases e
    exact ⟨i, j, rfl, rfl, q⟩
  · cases e
theorem cr_le : CmpR C .le (rI0 fun i j => .bl (decide (i ≤ j))) := by
  intro hid η st H x y b u w Q rel ru rw' e q
  simp only [cmpV, cmpop] at e
  split at e
  · rename_i i j e1 e2
    obtain ⟨_, rfl⟩ := rd_int e1 ru
    obtain ⟨_, rfl⟩ := rd_int e2 rw'
    cases e
    exact ⟨i, j, rfl, rfl, q⟩
  · cases e
theorem cr_gt : CmpR C .gt (rI0 fun i j => .bl (decide (j < i))) := by
  intro hid η st H x y b u w Q rel ru rw' e q
  simp only [cmpV, cmpop] at e
  split at e
  · rename_i i j e1 e2
    obtain ⟨_, rfl⟩ := rd_int e1 ru
    obtain ⟨_, rfl⟩ := rd_int e2 rw'
    cases e
    exact ⟨i, j, rfl, rfl, q⟩
  · cases e
theorem cr_ge : CmpR C .ge (rI0 fun i j => .bl (decide (j ≤ i))) := by
  intro hid η st H x y b u w Q rel ru rw' e q
  simp only [cmpV, cmpop] at e
  split at e
  · rename_i i j e1 e2
    obtain ⟨_, rfl⟩ := rd_int e1 ru
    obtain ⟨_, rfl⟩ := rd_int e2 rw'
    cases e
    exact ⟨i, j, rfl, rfl, q⟩
  · cases e
/-- in: a row, a text, a dict -/
def rIn3 (W : Wl) : R2 := fun x y H Q => (rCt W inRow x y H Q ∨ ∃ (c : Nat) (z : Str), x = .str ⟨#[c]⟩ ∧ y = .str z ∧ Q (.bl (decide (c ∈ z.cps.toList))) H) ∨ ∃ a o, y = .ref a ∧ DGet H a x o ∧ Q (.bl o.isSome) H
def rNotIn3 (W : Wl) : R2 := fun x y H Q => (rCt W (fun c d => (inRow c d).map (!·)) x y H Q ∨ ∃ (c : Nat) (z : Str), x = .str ⟨#[c]⟩ ∧ y = .str z ∧ Q (.bl (!decide (c ∈ z.cps.toList))) H) ∨ ∃ a o, y = .ref a ∧ DGet H a x o ∧ Q (.bl (!o.isSome)) H
theorem op_dIn (hu : X.A.units + 64 < cLine) : OpR X (compareOp .In) (fun x y H Q => ∃ a o, y = .ref a ∧ DGet H a x o ∧ Q (.bl o.isSome) H) := by
  intro pins s σ H x y v u Q I rx ry h
  obtain ⟨a, o, rfl, g, q⟩ := h
  cases ry
  exact d_in (by omega) I g rx fun s' I' => ⟨.bl _, H, I', rfl, q⟩
theorem op_dNotIn (hu : X.A.units + 64 < cLine) : OpR X (compareOp .NotIn) (fun x y H Q => ∃ a o, y = .ref a ∧ DGet H a x o ∧ Q (.bl (!o.isSome)) H) := by
  intro pins s σ H x y v u Q I rx ry h
  obtain ⟨a, o, rfl, g, q⟩ := h
  cases ry
  exact d_notIn (by omega) I g rx fun s' I' => ⟨.bl _, H, I', rfl, q⟩
theorem op_in3 (hK : X.K = C.W.K) (hu : X.A.units + 64 < cLine) : OpR X (compareOp .In) (rIn3 C.W) := ((op_inC hK hu).1.or op_in_sign).or (op_dIn hu)
theorem op_notIn3 (hK : X.K = C.W.K) (hu : X.A.units + 64 < cLine) : OpR X (compareOp .NotIn) (rNotIn3 C.W) := ((op_inC hK hu).2.or op_notIn_sign).or (op_dNotIn hu)
theorem inop_cases {a b : Va} {k : Bool} (h : inop a b = some k) : inRow a b = some k ∨ (∃ c y, a = .str [c] ∧ b = .str y ∧ k = decide (c ∈ y)) ∨ ∃ kvs, b = .dct kvs ∧ isKey a = true ∧ k = (getK kvs a).isSome := by
  cases b with
  | lst ys => exact .inl h
  | tup ys => exact .inl h
  | str y =>
    simp only [inop] at h
    split at h
    · rename_i c; cases h; exact .inr (.inl ⟨c, y, rfl, rfl, rfl⟩)
    · cases h
  | dct kvs =>
    simp only [inop] at h
    split at h
    · rename_i hk; cases h; exact .inr (.inr ⟨kvs, rfl, hk, rfl⟩)
    · cases h
  | _ => cases h
theorem rd_key {st : Sto} {v : Va} (h : isKey (rd st v) = true) : rd st v = v := by
  rcases rd_cases v st with ⟨n, o, rfl, e, a, q⟩ | q
  · rw [q] at h; cases o <;> first | (cases h; done) | (cases a)
  · exact q
theorem cr_in : CmpR C .isIn (rIn3 C.W) := by
  intro hid η st H x y b u w Q rel ru rw' e q
  replace e : inop (rd st x) (rd st y) = some b := e
  rcases inop_cases e with e | ⟨c, z, e1, e2, rfl⟩ | ⟨kvs, e1, hk, rfl⟩
  · exact .inl (.inl ⟨_, _, _, _, b, ru.ct rel, rw'.ct rel, e, q⟩)
  · obtain ⟨_, rfl⟩ := rd_str e1 ru
    obtain ⟨_, rfl⟩ := rd_str e2 rw'
    exact .inl (.inr ⟨c, cS z, rfl, rfl, by simpa [cS] using q⟩)
  · obtain ⟨a, us, rfl, h, r⟩ := rd_dct rel e1 rw'
    rw [rd_key hk] at hk
    obtain ⟨o, g, ho⟩ := dget_of h r hk ru
    refine .inr ⟨a, o, rfl, g, ?_⟩
    have e : o.isSome = (getK kvs (rd st x)).isSome := by
      rw [rd_key (by rw [rd_key (st := st) (v := x) (by
        cases x <;> first | exact hk | cases hk)]; exact hk)]
      rcases ho with ⟨h1, rfl⟩ | ⟨v, u', h1, rfl, _⟩ <;> rw [h1] <;> rfl
    rw [e]; exact q
theorem cr_notIn : CmpR C .notIn (rNotIn3 C.W) := by
  intro hid η st H x y b u w Q rel ru rw' e q
  replace e : (inop (rd st x) (rd st y)).map (!·) = some b := e
  cases e0 : inop (rd st x) (rd st y) with
  | none => rw [e0] at e; cases e
  | some k =>
    rw [e0] at e; cases e
    rcases inop_cases e0 with e | ⟨c, z, e1, e2, rfl⟩ | ⟨kvs, e1, hk, rfl⟩
    · exact .inl (.inl ⟨_, _, _, _, _, ru.ct rel, rw'.ct rel, by show (inRow _ _).map _ = _; rw [e]; rfl, q⟩)
    · obtain ⟨_, rfl⟩ := rd_str e1 ru
      obtain ⟨_, rfl⟩ := rd_str e2 rw'
      exact .inl (.inr ⟨c, cS z, rfl, rfl, by simpa [cS] using q⟩)
    · obtain ⟨a, us, rfl, h, r⟩ := rd_dct rel e1 rw'
      rw [rd_key hk] at hk
      obtain ⟨o, g, ho⟩ := dget_of h r hk ru
      refine .inr ⟨a, o, rfl, g, ?_⟩
      have e : o.isSome = (getK kvs (rd st x)).isSome := by
        rw [rd_key (by rw [rd_key (st := st) (v := x) (by
          cases x <;> first | exact hk | cases hk)]; exact hk)]
        rcases ho with ⟨h1, rfl⟩ | ⟨v, u', h1, rfl, _⟩ <;> rw [h1] <;> rfl
      rw [e]; exact q
variable {a b : Expr} {ia ib : E} {o : CmpOp} {op : Cop} {r : R2} {pos : Pos}
theorem cmp_red {hid : Addr → Prop} {η : List Addr} {st : Sto} {H : Hp} {σ : L2.St} {ρ : Sl} {Rr : VK} (rel : Rel C.W hid η st H) (env : EnvR C.W (Tb hid η st) η H ρ σ) (cr : CmpR C op r)
    {K : Bool → List Addr → Sto → Hp → Prop}
    (h : Res C hid η st H σ ((evE C.G C.fr ia ρ st).bind fun x st => (evE C.G C.fr ib ρ st).bind fun y st => R.of (cmpV C.G op st x y) st) K)
    (hr : ∀ t η' st' H', Rel C.W hid η' st' H' → Gr η st H η' st' H' → EnvR C.W (Tb hid η' st') η' H' ρ σ → K t η' st' H' → Rr (.bl t) H') : tOp r (tE C ia) (tE C ib) σ H Rr :=
  tE2 rel env h fun x y η' st' H' r' g' e' u w ru rw' q => by
    obtain ⟨t, et, q⟩ := Res.ofO q
    exact cr hid η' st' H' x y t u w Rr r' ru rw' et (hr t η' st' H' r' g' e' (q η' H' r' Gr.refl))
theorem evE_cmp (fr : Fr) (G : Pg) (ρ : Sl) (st : Sto) : evE G fr (.cmp op ia ib) ρ st = ((evE G fr ia ρ st).bind fun x st => (evE G fr ib ρ st).bind fun y st => R.of (cmpV G op st x y) st).bind fun t st => .ok (.bl t) st := by
  rw [evE]
  cases evE G fr ia ρ st with
  | ok x st =>
    simp only [R.bind_ok]
    cases evE G fr ib ρ st with
    | ok y st => simp only [R.bind_ok]; cases cmpV G op st x y <;> rfl
    | _ => rfl
  | _ => rfl
theorem se_cmp (ha : PE X a (tE C ia)) (hb : PE X b (tE C ib)) (ho : OpR X (compareOp o) r) (cr : CmpR C op r) (hm : behindInMarks o b = false) : PE X (.Compare a [o] [b] pos) (tE C (.cmp op ia ib)) := by
  refine pe_weak (pe_cmpR ho ha hb hm) fun σ H Q h => ?_
  obtain ⟨hid, η, st, ρ, rel, env, h⟩ := h
  rw [evE_cmp] at h
  exact cmp_red rel env cr h.bind fun t η' st' H' r' g' e' q => q η' H' r' Gr.refl _ (by simp [Rep])
theorem st_cmp (ha : PE X a (tE C ia)) (hb : PE X b (tE C ib)) (ho : OpR X (compareOp o) r) (cr : CmpR C op r) (hm : behindInMarks o b = false) : PT X (.Compare a [o] [b] pos) (tT C (.cmp op ia ib)) := by
  refine pt_weak (pt_cmpR ho ha hb hm) fun σ H Q h => ?_
  obtain ⟨hid, η, st, ρ, rel, env, h⟩ := h
  rw [evE_cmp] at h
  have h2 := h.bind.bind
  exact cmp_red rel env cr h2 fun t η' st' H' r' g' e' q => ⟨t, rfl, by
    have q : Res C hid η' st' H' σ (R.of (truth (.bl t)) st') _ := q η' H' r' Gr.refl
    exact q η' H' r' Gr.refl⟩
variable {c : Expr} {ic : E} {o' : CmpOp} {op' : Cop} {r' : R2}
theorem chn_red {hid : Addr → Prop} {η : List Addr} {st : Sto} {H : Hp} {σ : L2.St} {ρ : Sl} {Q : VK} (rel : Rel C.W hid η st H) (env : EnvR C.W (Tb hid η st) η H ρ σ) (cr : CmpR C op r) (cr' : CmpR C op' r')
    {K : Va → List Addr → Sto → Hp → Prop} (h : Res C hid η st H σ (evE C.G C.fr (.chn op op' ia ib ic) ρ st) K) (hq : ∀ t η' st' H', Rel C.W hid η' st' H' → K (.bl t) η' st' H' → Q (.bl t) H') : tChain r r' (tE C ia) (tE C ib) (tE C ic) σ H Q := by
  rw [evE] at h
  refine tE2 rel env h fun x y η1 st1 H1 r1 g1 e1 u w ru rw' q => ?_
  obtain ⟨t, et, q⟩ := Res.ofO q.bind
  refine cr hid η1 st1 H1 x y t u w _ r1 ru rw' et ⟨t, rfl, ?_⟩
  have q := q η1 H1 r1 Gr.refl
  cases t with
  | false =>
    rw [if_neg (by decide)] at q
    rw [if_neg (by decide)]
    exact hq false η1 st1 H1 r1 (q η1 H1 r1 Gr.refl)
  | true =>
    rw [if_pos rfl] at q
    rw [if_pos rfl]
    refine tE1 r1 e1 q fun z η2 st2 H2 r2 g2 e2 u2 ru2 q2 => ?_
    obtain ⟨v, ev, q2⟩ := Res.ofO q2
    cases et2 : cmpV C.G op' st2 y z with
    | none => rw [et2] at ev; cases ev
    | some t2 =>
      rw [et2] at ev; cases ev
      exact cr' hid η2 st2 H2 y z t2 w u2 _ r2 (rw'.gr g2) ru2 et2 (hq t2 η2 st2 H2 r2 (q2 η2 H2 r2 Gr.refl))
theorem se_chn (ha : PE X a (tE C ia)) (hb : PE X b (tE C ib)) (hc : PE X c (tE C ic)) (ho : OpR X (compareOp o) r) (ho' : OpR X (compareOp o') r') (cr : CmpR C op r) (cr' : CmpR C op' r') (hp : PE X (.Compare a [o, o'] [b, c] pos) (tChain r r' (tE C ia) (tE C ib) (tE C ic))) :
    PE X (.Compare a [o, o'] [b, c] pos) (tE C (.chn op op' ia ib ic)) := by
  refine pe_weak hp fun σ H Q h => ?_
  obtain ⟨hid, η, st, ρ, rel, env, h⟩ := h
  exact chn_red rel env cr cr' h fun t η' st' H' r' q => q _ (by simp [Rep])
end
end M
end
section
set_option Elab.async false
set_option linter.all false
set_option maxRecDepth 10000
set_option autoImplicit false
/-! Sem10: a run's end: its own objects are gone. -/
namespace M
open PySem PySem.Spec PyProof.Rows L2
section
variable {W : Wl} {T T' : Addr → Prop} {η η' : List Addr} {H : Hp}
mutual
theorem low_of : ∀ (v : Va) (u : V), Rep W T η H v u → low η.length v = true
  | .non, _, _ | .bl _, _, _ | .int _, _, _ | .str _, _, _ | .fn _, _, _ => rfl
  | .clo _ _, _, h => by simp only [Rep] at h
  | .ref n, _, h => by
    simp only [Rep] at h
    obtain ⟨a, e, _⟩ := h
    simp only [low, decide_eq_true_eq]
    exact (List.getElem?_eq_some_iff.mp e).1
  | .tup vs, _, h => by
    simp only [Rep] at h
    obtain ⟨a, us, _, _, r⟩ := h
    simpa only [low] using lows_of vs us r
  | .lst vs, _, h => by
    simp only [Rep] at h
    obtain ⟨a, us, _, _, r⟩ := h
    simpa only [low] using lows_of vs us r
  | .lck vs, _, h => by
    simp only [Rep] at h
    obtain ⟨a, us, _, _, r⟩ := h
    simpa only [low] using lows_of vs us r
  | .dct kvs, _, h => by
    simp only [Rep] at h
    obtain ⟨a, us, _, _, _, r⟩ := h
    simpa only [low] using lowk_of kvs us r
  | .ins C fs, _, h => by
    simp only [Rep] at h
    obtain ⟨a, dx, us, _, _, _, r⟩ := h
    simpa only [low] using lowf_of fs us r
  | .exc C fs, _, h => by
    simp only [Rep] at h
    obtain ⟨a, d, us, _, _, _, _, r⟩ := h
    simpa only [low] using lowf_of fs us r
theorem lows_of : ∀ (vs : List Va) (us : List V), Reps W T η H vs us → lows η.length vs = true
  | [], _, _ => rfl
  | v :: r, _, h => by
    simp only [Reps] at h
    obtain ⟨u, us, _, h1, h2⟩ := h
    simp only [lows, low_of v u h1, lows_of r us h2, Bool.and_self]
theorem lowk_of : ∀ (vs : List (Va × Va)) (us : List (Key × V)), RepK W T η H vs us → lowk η.length vs = true
  | [], _, _ => rfl
  | (k, v) :: r, _, h => by
    simp only [RepK] at h
    obtain ⟨c, u, us, _, hk, h1, h2⟩ := h
    have : low η.length k = true := by
      cases k <;> first | rfl | cases hk
    simp only [lowk, this, low_of v u h1, lowk_of r us h2, Bool.and_self]
theorem lowf_of : ∀ (vs : List (String × Va)) (us : List (Str × V)), RepF W T η H vs us → lowf η.length vs = true
  | [], _, _ => rfl
  | (k, v) :: r, _, h => by
    simp only [RepF] at h
    obtain ⟨u, us, _, h1, h2⟩ := h
    simp only [lowf, low_of v u h1, lowf_of r us h2, Bool.and_self]
end
mutual
/-- a value that names no late object, seen with the early ones only -/
theorem Rep.cut (ht : ∀ a, T' a → T a) (he : ∃ more, η = η' ++ more) : ∀ (v : Va) (u : V), low η'.length v = true → Rep W T η H v u → Rep W T' η' H v u
  | .non, _, _, h | .bl _, _, _, h | .int _, _, _, h | .str _, _, _, h | .fn _, _, _, h => by simp only [Rep] at h ⊢; exact h
  | .clo _ _, _, _, h => by simp only [Rep] at h
  | .ref n, _, l, h => by
    simp only [low, decide_eq_true_eq] at l
    simp only [Rep] at h ⊢
    obtain ⟨a, e, r⟩ := h
    obtain ⟨m, rfl⟩ := he
    exact ⟨a, by rw [List.getElem?_append_left l] at e; exact e, r⟩
  | .tup vs, _, l, h => by
    simp only [low] at l
    simp only [Rep] at h ⊢
    obtain ⟨a, us, e, f, r⟩ := h
    exact ⟨a, us, e, f.mono fun b o h n => ⟨h, fun z => n (ht b z)⟩, Reps.cut ht he vs us l r⟩
  | .lst vs, _, l, h => by
    simp only [low] at l
    simp only [Rep] at h ⊢
    obtain ⟨a, us, e, f, r⟩ := h
    exact ⟨a, us, e, ⟨f.1, fun z => f.2 (ht a z)⟩, Reps.cut ht he vs us l r⟩
  | .lck vs, _, l, h => by
    simp only [low] at l
    simp only [Rep] at h ⊢
    obtain ⟨a, us, e, f, r⟩ := h
    exact ⟨a, us, e, f.mono fun b o h n => ⟨h, fun z => n (ht b z)⟩, Reps.cut ht he vs us l r⟩
  | .dct kvs, _, l, h => by
    simp only [low] at l
    simp only [Rep] at h ⊢
    obtain ⟨a, us, e, n, h, r⟩ := h
    exact ⟨a, us, e, fun z => n (ht a z), h, RepK.cut ht he kvs us l r⟩
  | .ins C fs, _, l, h => by
    simp only [low] at l
    simp only [Rep] at h ⊢
    obtain ⟨a, dx, us, e, n, h, r⟩ := h
    exact ⟨a, dx, us, e, fun z => n (ht a z), h, RepF.cut ht he fs us l r⟩
  | .exc C fs, _, l, h => by
    simp only [low] at l
    simp only [Rep] at h ⊢
    obtain ⟨a, d, us, e, x, n, h, r⟩ := h
    exact ⟨a, d, us, e, x, fun z => n (ht d z), h, RepF.cut ht he fs us l r⟩
theorem Reps.cut (ht : ∀ a, T' a → T a) (he : ∃ more, η = η' ++ more) : ∀ (vs : List Va) (us : List V), lows η'.length vs = true → Reps W T η H vs us → Reps W T' η' H vs us
  | [], _, _, h => by simp only [Reps] at h ⊢; exact h
  | v :: r, _, l, h => by
    simp only [lows, Bool.and_eq_true] at l
    simp only [Reps] at h ⊢
    obtain ⟨u, us', e, h1, h2⟩ := h
    exact ⟨u, us', e, Rep.cut ht he v u l.1 h1, Reps.cut ht he r us' l.2 h2⟩
theorem RepK.cut (ht : ∀ a, T' a → T a) (he : ∃ more, η = η' ++ more) : ∀ (vs : List (Va × Va)) (us : List (Key × V)), lowk η'.length vs = true → RepK W T η H vs us → RepK W T' η' H vs us
  | [], _, _, h => by simp only [RepK] at h ⊢; exact h
  | (k, v) :: r, _, l, h => by
    simp only [lowk, Bool.and_eq_true] at l
    simp only [RepK] at h ⊢
    obtain ⟨c, u, us', e, h0, h1, h2⟩ := h
    exact ⟨c, u, us', e, h0, Rep.cut ht he v u l.1.2 h1, RepK.cut ht he r us' l.2 h2⟩
theorem RepF.cut (ht : ∀ a, T' a → T a) (he : ∃ more, η = η' ++ more) : ∀ (vs : List (String × Va)) (us : List (Str × V)), lowf η'.length vs = true → RepF W T η H vs us → RepF W T' η' H vs us
  | [], _, _, h => by simp only [RepF] at h ⊢; exact h
  | (k, v) :: r, _, l, h => by
    simp only [lowf, Bool.and_eq_true] at l
    simp only [RepF] at h ⊢
    obtain ⟨u, us', e, h1, h2⟩ := h
    exact ⟨u, us', e, Rep.cut ht he v u l.1 h1, RepF.cut ht he r us' l.2 h2⟩
end
theorem lowO_of {o : Ob} {a : Addr} (h : ObR W T η H o a) : lowO η.length o = true := by
  cases o with
  | lst vs => obtain ⟨us, _, r⟩ := h; exact lows_of vs us r
  | dct vs => obtain ⟨us, _, r⟩ := h; exact lowk_of vs us r
  | ins C vs => obtain ⟨dx, us, _, r⟩ := h; exact lowf_of vs us r
  | dead => rfl
theorem ObR.cut (ht : ∀ a, T' a → T a) (he : ∃ more, η = η' ++ more) {o : Ob} {a : Addr} (l : lowO η'.length o = true) (h : ObR W T η H o a) : ObR W T' η' H o a := by
  cases o with
  | lst vs => obtain ⟨us, e, r⟩ := h; exact ⟨us, e, Reps.cut ht he vs us l r⟩
  | dct vs => obtain ⟨us, e, r⟩ := h; exact ⟨us, e, RepK.cut ht he vs us l r⟩
  | ins C vs => obtain ⟨dx, us, e, r⟩ := h; exact ⟨dx, us, e, RepF.cut ht he vs us l r⟩
  | dead => trivial
end
section
variable {W : Wl} {hid : Addr → Prop} {η η' : List Addr} {st st' : Sto} {H H' : Hp}
theorem Lv.cut (hl : η.length = st.length) (he : ∃ more, η' = η ++ more) {a : Addr} (h : Lv η (st'.take st.length) a) : Lv η' st' a := by
  obtain ⟨n, o, h1, h2, h3⟩ := h
  have hn : n < st.length := by rw [← hl]; exact (List.getElem?_eq_some_iff.mp h3).1
  rw [List.getElem?_take_of_lt hn] at h1
  obtain ⟨m, rfl⟩ := he
  exact ⟨n, o, h1, h2, by rw [List.getElem?_append_left (by omega)]; exact h3⟩
theorem Tb.cut (hl : η.length = st.length) (he : ∃ more, η' = η ++ more) (a : Addr) (h : Tb hid η (st'.take st.length) a) : Tb hid η' st' a := h.elim .inl fun h => .inr (h.cut hl he)
/-- the early objects alone -/
theorem Rel.cut (rel : Rel W hid η st H) (rel' : Rel W hid η' st' H') (g : Gr η st H η' st' H') (kv : keepsV st st') : Rel W hid η (st'.take st.length) H' ∧ Gr η st H η (st'.take st.length) H' := by
  obtain ⟨hle, kv⟩ := kv
  have hl := rel.len
  obtain ⟨more, rfl⟩ := g.ids
  have ge : ∀ {n : Nat}, n < st.length → (st'.take st.length)[n]? = st'[n]? := fun hn => List.getElem?_take_of_lt hn
  have lt : ∀ {n : Nat} {o : Ob}, (st'.take st.length)[n]? = some o → n < st.length := fun {n o} h => by
    have := (List.getElem?_eq_some_iff.mp h).1
    rw [List.length_take] at this; omega
  refine ⟨⟨by rw [List.length_take]; omega, fun n o a e1 e2 => ?_, fun m n o o' a e1 e2 a1 a2 e3 e4 => ?_, rel'.hd, fun a ha l => rel'.sep a ha (l.cut hl g.ids)⟩, ⟨⟨[], by simp⟩, fun a o h n => ⟨(g.keep a o h n).1, fun l => (g.keep a o h n).2 (l.cut hl g.ids)⟩⟩⟩
  · have hn := lt e1
    rw [ge hn] at e1
    have ob := rel'.obs n o a e1 (by rw [List.getElem?_append_left (by omega)]; exact e2)
    have l : lowO η.length o = true := by
      rcases kv n hn with q | ⟨o', q, _, l⟩
      · rw [e1] at q
        exact lowO_of (rel.obs n o a q.symm e2)
      · rw [e1] at q; cases q
        rw [hl]; exact l
    exact ob.cut (Tb.cut hl g.ids) g.ids l
  · have hm := lt e1
    have hn := lt e2
    rw [ge hm] at e1
    rw [ge hn] at e2
    exact rel'.inj m n o o' a e1 e2 a1 a2 (by rw [List.getElem?_append_left (by omega)]; exact e3) (by rw [List.getElem?_append_left (by omega)]; exact e4)
/-- handed out by value -/
theorem fz1_rep (rel : Rel W hid η st H) (rel' : Rel W hid η' st' H') (g : Gr η st H η' st' H') {v v' : Va} {u : V} (h : fz1 st.length st' v = some v') (r : Rep W (Tb hid η' st') η' H' v u) : Rep W (Tb hid η (st'.take st.length)) η H' v' u := by
  have hl := rel.len
  have tc : ∀ a, Tb hid η (st'.take st.length) a → Tb hid η' st' a := Tb.cut hl g.ids
  have gen : ∀ {v v' : Va}, (if low st.length v then some v else none) = some v' → Rep W (Tb hid η' st') η' H' v u → Rep W (Tb hid η (st'.take st.length)) η H' v' u := fun {v v'} h r => by
    split at h
    · rename_i hlow
      cases h
      exact Rep.cut tc g.ids _ _ (by rw [hl]; exact hlow) r
    · cases h
  unfold fz1 at h
  split at h
  · rename_i m
    split at h
    · rename_i hm
      cases h
      exact Rep.cut tc g.ids _ _ (by rw [hl]; simpa [low] using hm) r
    · rename_i hm
      split at h
      · cases h
      · rename_i hne
        split at h
        · rename_i hlow
          cases h
          rcases rd_cases (.ref m) st' with ⟨n, o, en, e, al, q⟩ | q
          · cases en
            rw [q] at hlow ⊢
            simp only [Rep] at r
            obtain ⟨a, ea, rfl⟩ := r
            have nt : ¬ Tb hid η (st'.take st.length) a := fun z => by
              rcases z with z | ⟨i, o2, e1, a1, e2⟩
              · exact rel'.sep a z ⟨m, o, e, al, ea⟩
              · have hi : i < st.length := by rw [← hl]; exact (List.getElem?_eq_some_iff.mp e2).1
                rw [List.getElem?_take_of_lt hi] at e1
                obtain ⟨more, rfl⟩ := g.ids
                have := rel'.inj i m o2 o a e1 e a1 al (by rw [List.getElem?_append_left (by omega)]; exact e2) ea
                omega
            have ob := rel'.obs m o a e ea
            cases o with
            | lst vs =>
              obtain ⟨us, h1, h2⟩ := ob
              simp only [Rep]
              exact ⟨a, us, rfl, ⟨h1, nt⟩, Reps.cut tc g.ids _ _ (by rw [hl]; exact hlow) h2⟩
            | dct vs =>
              obtain ⟨us, h1, h2⟩ := ob
              simp only [Rep]
              exact ⟨a, us, rfl, nt, h1, RepK.cut tc g.ids _ _ (by rw [hl]; exact hlow) h2⟩
            | ins D vs =>
              obtain ⟨dx, us, h1, h2⟩ := ob
              simp only [Rep]
              exact ⟨a, dx, us, rfl, nt, h1, RepF.cut tc g.ids _ _ (by rw [hl]; exact hlow) h2⟩
            | dead => cases al
          · exact absurd q (hne m)
        · cases h
  · exact gen h r
theorem fzs_rep (rel : Rel W hid η st H) (rel' : Rel W hid η' st' H') (g : Gr η st H η' st' H') : ∀ {vs vs' : List Va} {us : List V}, fzs st.length st' vs = some vs' → Reps W (Tb hid η' st') η' H' vs us → Reps W (Tb hid η (st'.take st.length)) η H' vs' us
  | [], _, _, h, r => by cases h; simp only [Reps] at r ⊢; exact r
  | v :: vs, vs', us, h, r => by
    simp only [fzs] at h
    cases e1 : fz1 st.length st' v with
    | none => rw [e1] at h; cases h
    | some x =>
      rw [e1] at h
      cases e2 : fzs st.length st' vs with
      | none => rw [e2] at h; cases h
      | some xs =>
        rw [e2] at h; cases h
        simp only [Reps] at r ⊢
        obtain ⟨u, us', rfl, r1, r2⟩ := r
        exact ⟨u, us', rfl, fz1_rep rel rel' g e1 r1, fzs_rep rel rel' g e2 r2⟩
theorem fz_rep (rel : Rel W hid η st H) (rel' : Rel W hid η' st' H') (g : Gr η st H η' st' H') {v v' : Va} {u : V} (h : fz st.length st' v = some v') (r : Rep W (Tb hid η' st') η' H' v u) : Rep W (Tb hid η (st'.take st.length)) η H' v' u := by
  unfold fz at h
  split at h
  · rename_i vs
    cases e : fzs st.length st' vs with
    | none => rw [e] at h; cases h
    | some xs =>
      rw [e] at h; cases h
      simp only [Rep] at r ⊢
      obtain ⟨a, us, rfl, f, r⟩ := r
      exact ⟨a, us, rfl, f.mono fun b o h n => ⟨h, fun z => n (Tb.cut rel.len g.ids b z)⟩, fzs_rep rel rel' g e r⟩
  · exact fz1_rep rel rel' g h r
/-- a run's end -/
theorem exit_ok {C : Cfg} {md : Bool} {σ : L2.St} {v : Va} {u : V} {Q : VK} (rel : Rel C.W hid η st H) (rel' : Rel C.W hid η' st' H') (g : Gr η st H η' st' H')
    (h : Res C hid η st H σ (exitV md st v st') fun v η' st' H' => ∀ u, Rep C.W (Tb hid η' st') η' H' v u → Q u H') (r : Rep C.W (Tb hid η' st') η' H' v u) : Q u H' := by
  cases md with
  | false => exact h η' H' rel' g u r
  | true =>
    simp only [exitV] at h
    split at h
    · rename_i kv
      obtain ⟨v', e, q⟩ := Res.ofO' h
      obtain ⟨r1, g1⟩ := rel.cut rel' g kv
      exact q η H' r1 g1 u (fz_rep rel rel' g e r)
    · exact h.elim
end
end M
end
section
set_option Elab.async false
set_option linter.all false
set_option maxRecDepth 10000
set_option autoImplicit false
/-! Sem11: what a def promises; calls. -/
namespace M
open PySem PySem.Spec PyProof.Rows L2
/-- a law's ground -/
structure Ld where
  P : Program
  w : World
  K : PySem.W.Frag
  mg : Str → Option Value
  base : Heap
abbrev ldOf (X : Cx) : Ld := ⟨X.prog, X.w, X.K, X.mg, X.base⟩
abbrev CXL (L : Ld) : CXT := L2.CX L.P L.w
/-- a def's promise: it stands in no guard -/
structure FnG (L : Ld) (k : Nat) (f : Addr) (fd : FuncData) (ps : List Str) (sp : Sp) : Prop where
  len : ∀ vs H Q E, sp vs H Q E → vs.length = ps.length
  run : ∀ (A : Around) (outer : List Env) (s : Shared) (H : Hp) (args : Args) (us : List Value) (vs : List V) (Q : VK) (E : XK), Room k A → A.guards = some [] → Env0 L.P L.w L.K L.mg L.base A outer s H → BindsTo s fd args (ps.zip us) → Vals vs us → sp vs H Q E →
    codeAny (model L.P L.w) A (.call (.ref f) args) (CR (CXL L) outer L.P L.w H s Q E) s
theorem FnG.mono {L : Ld} {j k : Nat} {f : Addr} {fd : FuncData} {ps : List Str} {sp : Sp} (F : FnG L j f fd ps sp) (h : j ≤ k) : FnG L k f fd ps sp :=
  ⟨F.len, fun A outer s H args us vs Q E hr => F.run A outer s H args us vs Q E (hr.mono h)⟩
/-- the wish of an exception, by frame -/
abbrev wE (E : XK) : WX := fun c d _ H => E c d H
abbrev cE (W : Wl) (E : XK) : Cfg := ⟨W, {}, [], wE E⟩
/-- what the language's def promises -/
def spM (W : Wl) (F : Fs) : Sp := fun vs H Q E => ∃ hid η st fr as, Rel W hid η st H ∧ Reps W (Tb hid η st) η H as vs ∧ Res (cE W E) hid η st H [] (F fr as st) fun v η' st' H' => ∀ u, Rep W (Tb hid η' st') η' H' v u → Q u H'
/-- how many arguments -/
def Ar (F : Fs) (n : Nat) : Prop := ∀ fr as st, as.length ≠ n → F fr as st = .bad
theorem spM_len {W : Wl} {F : Fs} {n : Nat} (ar : Ar F n) {vs : List V} {H : Hp} {Q : VK} {E : XK} (h : spM W F vs H Q E) : vs.length = n := by
  obtain ⟨hid, η, st, fr, as, rel, rs, r⟩ := h
  rw [← rs.length]
  by_cases q : as.length = n
  · exact q
  · rw [ar fr as st q] at r; exact r.elim
theorem ar_runF {G : Pg} {N : Nat} {md : Bool} {ns np : Nat} {body : List S} : Ar (runF G N md ns np body) np := fun fr as st h => by
  unfold runF; rw [if_neg h]
/-- the same wish, said of a frame -/
theorem Res.toE {C : Cfg} {α : Type} {hid : Addr → Prop} {η : List Addr} {st : Sto} {H : Hp} {σ : L2.St} {r : R Sto α} {k : α → List Addr → Sto → Hp → Prop} (h : Res C hid η st H σ r k) : Res (cE C.W fun c d H => C.wx c d σ H) hid η st H [] r k := by
  cases r with
  | ok a s => exact h
  | exc x s =>
    cases x with
    | exc D fs => exact h
    | _ => exact h
  | bad => exact h
/-- a callable of the module: a def, a class -/
def CallG (L : Ld) (W : Wl) (k : Nat) (x : String) (F : Fs) : Prop := ∃ a, L.mg (sS x) = some (.ref a) ∧ PySem.W.keepIn L.K (.ref a) = true ∧
  ∀ (X : Cx) (Wx : WX) (pins : List (Addr × Obj)) (σ : L2.St) (H : Hp) (s : Shared) (Q : VK) (us : List Value) (vs : List V), ldOf X = L → Room k X.A → X.A.guards = some [] → Takes X Wx → Inv X pins σ H s → Vals vs us →
    spM W F vs H Q (fun c d H' => Wx c d σ H') → wpAny (model X.prog X.w) X.A (call (.ref a) us) (EP X pins σ Q) X.xe s
theorem callG_fn {L : Ld} {W : Wl} {k : Nat} {x : String} {F : Fs} {a : Addr} {fd : FuncData} {ps : List Str} (hm : L.mg (sS x) = some (.ref a)) (hk : PySem.W.keepIn L.K (.ref a) = true) (hb : Binds L.K fd ps []) (g : FnG L k a fd ps (spM W F)) : CallG L W k x F := by
  refine ⟨a, hm, hk, fun X Wx pins σ H s Q us vs hL hr hg tk I r h => ?_⟩
  subst hL
  have hl : us.length = ps.length := by rw [← r.length]; exact g.len _ _ _ _ h
  refine wpAny_call (codeAny_mono (g.run X.A X.stack s H ⟨us, []⟩ us vs Q _ hr hg I.env0 (by simpa using hb s us I.kIn (by simpa using hl)) r h) fun r s' hq => ?_)
  cases r with
  | error e => exact tk e s' (XE.of_call I (fun _ _ _ h => h) hq)
  | ok fl =>
    cases fl with
    | ret u => exact I.after hq
    | next => exact False.elim hq
    | brk => exact False.elim hq
    | cont => exact False.elim hq
theorem CallG.mono {L : Ld} {W : Wl} {j k : Nat} {x : String} {F : Fs} (g : CallG L W j x F) (h : j ≤ k) : CallG L W k x F := by
  obtain ⟨a, h1, h2, g⟩ := g
  exact ⟨a, h1, h2, fun X Wx pins σ H s Q us vs hL hr => g X Wx pins σ H s Q us vs hL (hr.mono h)⟩
/-! ### argument lists -/
def nst : Expr → Bool
  | .Starred _ _ => false
  | _ => true
theorem starEach_cons {e : Expr} {es : List Expr} {env : Env} (h : nst e = true) : starEach (e :: es) env = (false, eval e env) :: starEach es env := by
  cases e <;> first | rfl | cases h
theorem starEach_plain {pos : Pos} {env : Env} : ∀ {es : List Expr}, es.all nst = true → (backTo pos (starEach es env)).any (·.1) = false
  | [], _ => rfl
  | e :: es, h => by
    rw [List.all_cons, Bool.and_eq_true] at h
    rw [starEach_cons h.1]
    show (false || (backTo pos (starEach es env)).any (·.1)) = false
    rw [starEach_plain h.2]; rfl
section
variable {X : Cx} {C : Cfg} {L : Ld} {k : Nat}
theorem se_nil : PA X [] (tEs C []) := by
  refine pa_weak pa_nil fun σ H Q h => ?_
  obtain ⟨hid, η, st, ρ, rel, env, h⟩ := h
  rw [evEs] at h
  exact h η H rel Gr.refl [] (by simp [Reps])
theorem se_cons {e : Expr} {es : List Expr} {ie : E} {ies : List E} (ha : PE X e (tE C ie)) (hr : PA X es (tEs C ies)) (hn : nst e = true) : PA X (e :: es) (tEs C (ie :: ies)) := by
  refine pa_weak (pa_cons ha hr (starEach_cons hn)) fun σ H Q h => ?_
  obtain ⟨hid, η, st, ρ, rel, env, h⟩ := h
  rw [evEs] at h
  refine tE1 rel env h fun x η1 st1 H1 r1 g1 e1 u ru q1 => ?_
  refine ⟨hid, η1, st1, ρ, r1, e1, q1.bind.mono fun xs η2 st2 H2 r2 g2 q2 us rus => ?_⟩
  exact q2 η2 H2 r2 Gr.refl (u :: us) (by simp only [Reps]; exact ⟨u, us, rfl, ru.gr g2, rus⟩)
theorem se_call {f : String} {F : Fs} {x : Str} {es : List Expr} {ies : List E} {p pos : Pos} (hL : ldOf X = L) (hr : Room k X.A) (hgd : X.A.guards = some []) (tk : Takes X C.wx) (hx : sS f = x) (hg : Gl X x) (cg : CallG L C.W k f F) (hF : C.G.fn.lookup f = some F)
    (ha : PA X es (tEs C ies)) (hn : es.all nst = true) (h0 : es = [] → ies = []) (hdb : (x == ("__debug__" : Str)) = false) : PE X (.Call (.Name x p) es [] pos) (tE C (.call f ies)) := by
  subst hx
  refine ⟨fun pins s σ H Q I h => ?_⟩
  obtain ⟨hid, η, st, ρ, rel, env, h⟩ := h
  rw [evE] at h
  obtain ⟨a, hm, hk, run⟩ := cg
  subst hL
  have key : Res C hid η st H σ (evEs C.G C.fr ies ρ st) fun vs η' st' H' => ∀ us, Reps C.W (Tb hid η' st') η' H' vs us → spM C.W F us H' Q fun c d H' => C.wx c d σ H' :=
    h.bind.mono fun vs η' st' H' r' g' q us rus => ⟨hid, η', st', C.fr ++ [ρ], vs, r', rus, by rw [hF] at q; exact q.toE⟩
  refine wpAny_Call_Name_kw (ld_glob I hg hm ?_ hdb)
  cases es with
  | nil =>
    rw [h0 rfl] at key
    exact PySem.W.callWith_K0 I.kIn hk (run X C.wx pins σ H s Q [] [] rfl hr hgd tk I .nil (by
      rw [evEs] at key
      exact key η H rel Gr.refl [] (by simp [Reps])))
  | cons e es =>
    rw [List.all_cons, Bool.and_eq_true] at hn
    exact PySem.W.callWith_K (h₀ := X.base) I.ok.mod.kin hk (thn (ha.run pos pins s σ H _ I ⟨hid, η, st, ρ, rel, env, key⟩) fun us s1 ⟨vs, H1, I1, r, q⟩ => ⟨I1.kIn, run X C.wx pins σ H1 s1 Q us vs rfl hr hgd tk I1 r q⟩) (starEach_cons hn.1) (starEach_plain hn.2)
end
end M
end
section
set_option Elab.async false
set_option linter.all false
set_option maxRecDepth 10000
set_option autoImplicit false
/-! Sem12: classes made; keywords. -/
namespace M
open PySem PySem.Spec PyProof.Rows L2
noncomputable section
/-- an instance made, then its __init__ -/
def mkO (D : String) (Fi : Fs) : Fs := fun fr as st => (Fi fr (.ref st.length :: as) (st ++ [.ins D []])).bind fun v st' => match v with
  | .non => .ok (.ref st.length) st'
  | _ => .bad
def mkF (md : Bool) (D : String) (Fi : Fs) : Fs := fun fr as st => match mkO D Fi fr as st with
  | .ok v st' => exitV md st v st'
  | .exc x s => if low st.length x = true ∧ keepsV st s then .exc x (s.take st.length) else .bad
  | .bad => .bad
/-- a class without __init__ -/
def mkE (md : Bool) (D : String) : Fs := fun _ as st => match as with
  | [] => exitV md st (.ref st.length) (st ++ [.ins D []])
  | _ => .bad
end
section
variable {L : Ld} {W : Wl} {k : Nat} {x : String} {Fi : Fs} {f : Addr} {fd : FuncData} {ps ks : List Str} {md : Bool}
theorem exit_exc {C : Cfg} {hid : Addr → Prop} {η η' : List Addr} {st st' : Sto} {H H' : Hp} {α : Type} {K : α → List Addr → Sto → Hp → Prop} {σ : L2.St} {D : String} {fs : List (String × Va)} {d : Addr} {us : List (Str × V)} (rel : Rel C.W hid η st H) (rel' : Rel C.W hid η' st' H') (g : Gr η st H η' st' H')
    (h : Res C hid η st H σ (if low st.length (.exc D fs) = true ∧ keepsV st st' then (.exc (.exc D fs) (st'.take st.length) : R Sto α) else .bad) K) (h1 : H' d = some (.xd us)) (h2 : ¬ Tb hid η' st' d) (h3 : RepF C.W (Tb hid η' st') η' H' fs us) : C.wx (.ref (C.W.adr D)) (some d) σ H' := by
  split at h
  · rename_i hc
    obtain ⟨r1, g1⟩ := rel.cut rel' g hc.2
    refine h d us η H' r1 g1 h1 (fun z => h2 (Tb.cut rel.len g.ids d z)) (RepF.cut (Tb.cut rel.len g.ids) g.ids fs us ?_ h3)
    rw [rel.len]
    have := hc.1
    simpa only [low] using this
  · exact h.elim
/-- the promise of __init__ at a new instance -/
theorem spM_make {H : Hp} {vs : List V} {Q : VK} {E : XK} {a dx : Addr} (h : spM W (mkF md x Fi) vs H Q E) (ha : H a = none) (hd : H dx = none) (ne : dx ≠ a) :
    spM W Fi (.ref a :: vs) (upd (upd H dx (.own a)) a (.ins (W.adr x) dx [])) (fun v H2 => v = .non ∧ Q (.ref a) H2) E := by
  obtain ⟨hid, η, st, fr, as, rel, rs, r⟩ := h
  have rel1 : Rel W hid η st (upd H dx (.own a)) := rel.laid hd
  have g1 : Gr η st H η st (upd H dx (.own a)) := Gr.laid hd
  have ha1 : upd H dx (.own a) a = none := by rw [upd_ne (Ne.symm ne)]; exact ha
  obtain ⟨rel2, g2⟩ := rel1.alloc (ob := .ins x []) (o := .ins (W.adr x) dx []) ha1 rfl ⟨dx, [], upd_same, by simp [RepF]⟩
  have g := g1.trans g2
  refine ⟨hid, η ++ [a], st ++ [.ins x []], fr, .ref st.length :: as, rel2, ?_, ?_⟩
  · simp only [Reps]
    exact ⟨_, _, rfl, by simp only [Rep]; exact ⟨a, by rw [← rel.len]; simp, rfl⟩, rs.gr g⟩
  · unfold mkF mkO at r
    cases e : Fi fr (.ref st.length :: as) (st ++ [.ins x []]) with
    | bad => rw [e] at r; exact r.elim
    | exc z s' =>
      rw [e] at r
      simp only [R.bind_exc] at r
      cases z with
      | exc D fs =>
        intro d us η' H' r' g' h1 h2 h3
        exact exit_exc rel r' (g.trans g') r h1 h2 h3
      | _ => split at r <;> exact r.elim
    | ok v s' =>
      rw [e] at r
      simp only [R.bind_ok] at r
      intro η' H' r' g' u ru
      split at r
      · rename_i v2 st2 e2
        split at e2
        · cases e2
          refine ⟨by simpa [Rep] using ru, exit_ok rel r' (g.trans g') r ?_⟩
          simp only [Rep]
          refine ⟨a, ?_, rfl⟩
          obtain ⟨m, rfl⟩ := g'.ids
          rw [List.getElem?_append_left (by simp [rel.len]), ← rel.len]
          simp
        · cases e2
      · rename_i e2; split at e2 <;> cases e2
      · exact r.elim
theorem guards_make {A : Around} (h : A.guards = some []) (C : Addr) (us : List Value) (kw : List (Str × Value)) : (A.under (.builtin "type.__call__" ⟨.ref C :: us, kw⟩)).guards = some [] := by
  have hg : Code.isGuard (.builtin "type.__call__" ⟨.ref C :: us, kw⟩) = false := by
    show guardIds.contains "type.__call__" = false
    decide +kernel
  have hc : (Code.builtin "type.__call__" ⟨.ref C :: us, kw⟩).guards = [] := by
    unfold Code.guards
    rw [hg]; rfl
  unfold Around.under
  simp only [hc, h]
  rfl
/-- how a class is made -/
theorem run_mk {C : Addr} {us : List Value} {kw : List (Str × Value)} {vs : List V} {gs : List Value} {X : Cx} {Wx : WX} {pins : List (Addr × Obj)} {σ : L2.St} {H : Hp} {s : Shared} {Q : VK} (hL : ldOf X = L) (M : Mk L.K C f) (hC : C = W.adr x) (g : FnG L k f fd ps (spM W Fi)) (hr : Room (k + 1) X.A) (hg : X.A.guards = some [])
    (tk : Takes X Wx) (I : Inv X pins σ H s) (r : Vals vs gs) (hb : ∀ (s' : Shared) (a : Value), L.K.In s'.heap → BindsTo s' fd ⟨a :: us, kw⟩ (ps.zip (a :: gs))) (h : spM W (mkF md x Fi) vs H Q (fun c d H' => Wx c d σ H')) :
    wpAny (model X.prog X.w) X.A (call (.ref C) us kw) (EP X pins σ Q) X.xe s := by
  subst hL hC
  have hq := spM_make h (a := s.heap.objs.size + 1) (dx := s.heap.objs.size) (I.hok.fresh (Nat.le_succ _)) (I.hok.fresh (Nat.le_refl _)) (Nat.ne_of_lt (Nat.lt_succ_self _))
  have I2 := Inv.made (C := W.adr x) I
  have r2 : Vals (V.ref (s.heap.objs.size + 1) :: vs) (Value.ref (s.heap.objs.size + 1) :: gs) := .cons rfl r
  refine wpAny_call (make_map (f := f) I.kIn M.makes M.init (beq_iff_eq.mp M.fn) (codeAny_mono (g.run _ X.stack _ _ ⟨Value.ref (s.heap.objs.size + 1) :: us, kw⟩ (Value.ref (s.heap.objs.size + 1) :: gs) _ _ _ (hr.make (W.adr x) us kw) (guards_make hg (W.adr x) us kw)
    (I2.env0.make (W.adr x) us kw) (hb _ _ I2.kIn) r2 hq) fun r s' hq' => ?_))
  cases r with
  | error e => exact tk e s' (XE.of_call I2 (fun _ _ _ h => h) hq')
  | ok fl =>
    cases fl with
    | ret u =>
      obtain ⟨v, H', I3, rv, ev, q3⟩ := I2.after hq'
      subst ev
      exact ⟨rv, ⟨V.ref (s.heap.objs.size + 1), H', I3, rfl, q3⟩⟩
    | next => exact False.elim hq'
    | brk => exact False.elim hq'
    | cont => exact False.elim hq'
theorem callG_mk {C : Addr} (hm : L.mg (sS x) = some (.ref C)) (hC : C = W.adr x) (M : Mk L.K C f) (hb : Binds L.K fd ps []) (g : FnG L k f fd ps (spM W Fi)) : CallG L W (k + 1) x (mkF md x Fi) := by
  refine ⟨C, hm, M.kp, fun X Wx pins σ H s Q us vs hL hr hg tk I r h => ?_⟩
  have hl : vs.length + 1 = ps.length := by
    have := g.len _ _ _ _ (spM_make h (a := s.heap.objs.size + 1) (dx := s.heap.objs.size) (I.hok.fresh (Nat.le_succ _)) (I.hok.fresh (Nat.le_refl _)) (Nat.ne_of_lt (Nat.lt_succ_self _)))
    simpa using this
  exact run_mk hL M hC g hr hg tk I r (fun s' a k => by
    have := hb s' (a :: us) k (by simp [← r.length, hl])
    simpa using this) h
/-- a class without __init__ -/
theorem callG_mk0 {C : Addr} (hm : L.mg (sS x) = some (.ref C)) (hC : C = W.adr x) (mk : PySem.W.makesIn L.K C = true) (hi : PySem.W.findIn L.K (.ref C) "__init__" = some (some (.builtin "object.__init__"))) (hk : PySem.W.keepIn L.K (.ref C) = true) : CallG L W (k + 1) x (mkE md x) := by
  refine ⟨C, hm, hk, fun X Wx pins σ H s Q us vs hL hr hg tk I r h => ?_⟩
  subst hL hC
  obtain ⟨hid, η, st, fr, as, rel, rs, q⟩ := h
  cases as with
  | cons a as => exact q.elim
  | nil =>
    simp only [Reps] at rs
    subst rs
    cases r
    have I2 := Inv.made (C := W.adr x) I
    have Y := PySem.W.makes_of (M := model X.prog X.w) I.kIn mk
    have ho : ((s.heap.push PySem.W.emptyDict).push (PySem.W.instObj (W.adr x) s.heap.objs.size)).get? (s.heap.objs.size + 1) = some (PySem.W.instObj (W.adr x) s.heap.objs.size) := by
      have := Heap.get?_push_size (s.heap.push PySem.W.emptyDict) (o := PySem.W.instObj (W.adr x) s.heap.objs.size) rfl
      rwa [Heap.size_push] at this
    have t1 : PySem.W.Looks (model X.prog X.w) ((s.heap.push PySem.W.emptyDict).push (PySem.W.instObj (W.adr x) s.heap.objs.size)) (typeOf (.ref (s.heap.objs.size + 1))) (.ref (W.adr x)) := (PySem.W.Looks.ld ho).andThen .now
    have t2 : PySem.W.Looks (model X.prog X.w) ((s.heap.push PySem.W.emptyDict).push (PySem.W.instObj (W.adr x) s.heap.objs.size)) (isInstance (.ref (s.heap.objs.size + 1)) (.type "object")) true :=
      t1.andThen (Y.top.keeps fun b o e => Heap.get?_push_of_some _ (Heap.get?_push_of_some _ e))
    refine wpAny_call (make_map0 I.kIn mk hi (fun self => PySem.W.Looks.of_pure (PySem.W.oi_bind self)) ?_)
    obtain ⟨hh, g, d, t, os⟩ := s
    refine codeAny_call_builtin PySem.W.oi_plain PySem.W.entry_oi (@PySem.W.check_slot (model X.prog X.w) _ _ _ "object.__init__" "object" "__init__" (.ref (hh.objs.size + 1)) [] [] _ PySem.W.oi_kind PySem.W.oi_split t2 (PySem.W.oi_args (.ref (hh.objs.size + 1))) ?_)
    rw [PySem.W.oi_run]
    refine wpAny_pure (And.intro rfl ⟨V.ref (hh.objs.size + 1), _, I2, rfl, ?_⟩)
    have hd := I.hok.fresh (Nat.le_refl hh.objs.size)
    have ha := I.hok.fresh (Nat.le_succ hh.objs.size)
    have rel1 : Rel W hid η st (upd H hh.objs.size (.own (hh.objs.size + 1))) := rel.laid hd
    have g1 : Gr η st H η st (upd H hh.objs.size (.own (hh.objs.size + 1))) := Gr.laid hd
    have ha1 : upd H hh.objs.size (.own (hh.objs.size + 1)) (hh.objs.size + 1) = none := by rw [upd_ne (Nat.succ_ne_self _)]; exact ha
    obtain ⟨rel2, g2⟩ := rel1.alloc (ob := .ins x []) (o := .ins (W.adr x) hh.objs.size []) ha1 rfl ⟨_, [], upd_same, by simp [RepF]⟩
    refine exit_ok (C := cE W fun c d H' => Wx c d σ H') (σ := []) rel rel2 (g1.trans g2) q ?_
    simp only [Rep]
    exact ⟨_, by rw [← rel.len]; simp, rfl⟩
/-- made by keywords, all of them, from the last parameter to the first -/
def CallR' (L : Ld) (W : Wl) (k : Nat) (x : String) (ks : List Str) (F : Fs) : Prop := ∃ a, L.mg (sS x) = some (.ref a) ∧ PySem.W.keepIn L.K (.ref a) = true ∧
  ∀ (X : Cx) (Wx : WX) (pins : List (Addr × Obj)) (σ : L2.St) (H : Hp) (s : Shared) (Q : VK) (us : List Value) (vs : List V), ldOf X = L → Room k X.A → X.A.guards = some [] → Takes X Wx → Inv X pins σ H s → Vals vs us → us.length = ks.length →
    spM W F vs.reverse H Q (fun c d H' => Wx c d σ H') → wpAny (model X.prog X.w) X.A (call (.ref a) [] (ks.zip us)) (EP X pins σ Q) X.xe s
theorem Vals.rev {vs : List V} {us : List Value} (r : Vals vs us) : Vals vs.reverse us.reverse := by
  induction r with
  | nil => exact .nil
  | cons h t ih => rw [List.reverse_cons, List.reverse_cons]; exact ih.append (.cons h .nil)
theorem callR_mk {C : Addr} (hm : L.mg (sS x) = some (.ref C)) (hC : C = W.adr x) (M : Mk L.K C f) (hb : ∀ (a : Value) (us : List Value), us.length = ks.length → bindArgs fd ⟨[a], ks.zip us⟩ = pure (ps.zip (a :: us.reverse))) (g : FnG L k f fd ps (spM W Fi)) : CallR' L W (k + 1) x ks (mkF md x Fi) := by
  refine ⟨C, hm, M.kp, fun X Wx pins σ H s Q us vs hL hr hg tk I r hl h => ?_⟩
  exact run_mk (us := []) hL M hC g hr hg tk I (Vals.rev r) (fun s' a k => .of_eq (hb a us hl)) h
end
end M
end
section
set_option Elab.async false
set_option linter.all false
set_option maxRecDepth 10000
set_option autoImplicit false
/-! Sem13: more expressions, tests. -/
namespace M
open PySem PySem.Spec PyProof.Rows L2
theorem R.bind_assoc {σ α β γ : Type} (r : R σ α) (f : α → σ → R σ β) (g : β → σ → R σ γ) : (r.bind f).bind g = r.bind fun a s => (f a s).bind g := by cases r <;> rfl
section
variable {C : Cfg} {α β : Type} {hid : Addr → Prop} {η : List Addr} {st : Sto} {H : Hp} {σ : L2.St} {ρ : Sl}
theorem Res.monoR {r : R Sto α} {k k' : α → List Addr → Sto → Hp → Prop} (h : Res C hid η st H σ r k) (m : ∀ a η' st' H', r = .ok a st' → Rel C.W hid η' st' H' → Gr η st H η' st' H' → k a η' st' H' → k' a η' st' H') : Res C hid η st H σ r k' := by
  cases r with
  | ok a s => exact fun η2 H2 r2 g2 => m a η2 s H2 rfl r2 g2 (h η2 H2 r2 g2)
  | exc x s => exact h
  | bad => exact h
theorem tT1 {a : E} {f : Bool → Sto → R Sto β} {K : β → List Addr → Sto → Hp → Prop} {Rr : Bool → Hp → Prop} (rel : Rel C.W hid η st H) (env : EnvR C.W (Tb hid η st) η H ρ σ)
    (h : Res C hid η st H σ ((evE C.G C.fr a ρ st).bind fun x st => (R.of (truth x) st).bind f) K)
    (hr : ∀ t η' st' H', Rel C.W hid η' st' H' → Gr η st H η' st' H' → EnvR C.W (Tb hid η' st') η' H' ρ σ → Res C hid η' st' H' σ (f t st') K → Rr t H') : tT C a σ H Rr := by
  rw [← R.bind_assoc] at h
  exact ⟨hid, η, st, ρ, rel, env, h.bind.mono fun t η' st' H' r' g' q => hr t η' st' H' r' g' (env.gr g') q⟩
theorem truth_bl {W : Wl} {T : Addr → Prop} {x : Va} {b : Bool} {u : V} (h : truth x = some b) (r : Rep W T η H x u) : x = .bl b ∧ u = .bl b := by
  cases x with
  | bl c => cases h; exact ⟨rfl, by simpa [Rep] using r⟩
  | _ => cases h
theorem evEs_len {G : Pg} {fr : Fr} : ∀ {es : List E} {ρ : Sl} {st st' : Sto} {vs : List Va}, evEs G fr es ρ st = .ok vs st' → vs.length = es.length
  | [], ρ, st, st', vs, h => by rw [evEs] at h; cases h; rfl
  | e :: es, ρ, st, st', vs, h => by
    rw [evEs] at h
    cases e1 : evE G fr e ρ st with
    | ok v s =>
      rw [e1, R.bind_ok] at h
      cases e2 : evEs G fr es ρ s with
      | ok vs' s' =>
        rw [e2, R.bind_ok] at h
        cases h
        simp [evEs_len e2]
      | exc x s' => rw [e2] at h; cases h
      | bad => rw [e2] at h; cases h
    | exc x s => rw [e1] at h; cases h
    | bad => rw [e1] at h; cases h
variable {X : Cx} {a b c : Expr} {ia ib ic : E} {pos : Pos} {rest : List Expr}
/-! ### and, or, not, if -/
theorem se_and (ha : PE X a (tE C ia)) (hb : PE X (.BoolOp .And (b :: rest) pos) (tE C ib)) : PE X (.BoolOp .And (a :: b :: rest) pos) (tE C (.and ia ib)) := by
  refine pe_weak (pe_and ha hb) fun σ H Q h => ?_
  obtain ⟨hid, η, st, ρ, rel, env, h⟩ := h
  rw [evE] at h
  refine tE1 rel env h fun x η1 st1 H1 r1 g1 e1 u ru q => ?_
  obtain ⟨t, et, q'⟩ := Res.ofO q.bind
  obtain ⟨rfl, rfl⟩ := truth_bl et ru
  refine ⟨t, rfl, ?_⟩
  have q := q' η1 H1 r1 Gr.refl
  cases t with
  | true => rw [if_pos rfl] at q ⊢; exact ⟨hid, η1, st1, ρ, r1, e1, q⟩
  | false => rw [if_neg (by decide)] at q ⊢; exact q η1 H1 r1 Gr.refl _ (by simp [Rep])
theorem se_or (ha : PE X a (tE C ia)) (hb : PE X (.BoolOp .Or (b :: rest) pos) (tE C ib)) : PE X (.BoolOp .Or (a :: b :: rest) pos) (tE C (.or ia ib)) := by
  refine pe_weak (pe_or ha hb) fun σ H Q h => ?_
  obtain ⟨hid, η, st, ρ, rel, env, h⟩ := h
  rw [evE] at h
  refine tE1 rel env h fun x η1 st1 H1 r1 g1 e1 u ru q => ?_
  obtain ⟨t, et, q'⟩ := Res.ofO q.bind
  obtain ⟨rfl, rfl⟩ := truth_bl et ru
  refine ⟨t, rfl, ?_⟩
  have q := q' η1 H1 r1 Gr.refl
  cases t with
  | false => rw [if_neg (by decide)] at q ⊢; exact ⟨hid, η1, st1, ρ, r1, e1, q⟩
  | true => rw [if_pos rfl] at q ⊢; exact q η1 H1 r1 Gr.refl _ (by simp [Rep])
theorem st_and (ha : PT X a (tT C ia)) (hb : PW X (.BoolOp .And (b :: rest) pos) (tT C ib)) : PW X (.BoolOp .And (a :: b :: rest) pos) (tT C (.and ia ib)) := by
  refine pw_weak (pw_and ha hb) fun σ H Q h => ?_
  obtain ⟨hid, η, st, ρ, rel, env, h⟩ := h
  rw [evE, R.bind_assoc] at h
  simp only [R.bind_assoc] at h
  refine tT1 rel env h fun t η1 st1 H1 r1 g1 e1 q => ?_
  cases t with
  | true => rw [if_pos rfl] at q ⊢; exact ⟨hid, η1, st1, ρ, r1, e1, q⟩
  | false => rw [if_neg (by decide)] at q ⊢; exact q η1 H1 r1 Gr.refl
theorem st_or (ha : PT X a (tT C ia)) (hb : PW X (.BoolOp .Or (b :: rest) pos) (tT C ib)) : PW X (.BoolOp .Or (a :: b :: rest) pos) (tT C (.or ia ib)) := by
  refine pw_weak (pw_or ha hb) fun σ H Q h => ?_
  obtain ⟨hid, η, st, ρ, rel, env, h⟩ := h
  rw [evE, R.bind_assoc] at h
  simp only [R.bind_assoc] at h
  refine tT1 rel env h fun t η1 st1 H1 r1 g1 e1 q => ?_
  cases t with
  | false => rw [if_neg (by decide)] at q ⊢; exact ⟨hid, η1, st1, ρ, r1, e1, q⟩
  | true => rw [if_pos rfl] at q ⊢; exact q η1 H1 r1 Gr.refl
theorem se_no (ha : PE X a (tE C ia)) : PE X (.UnaryOp .Not a pos) (tE C (.no ia)) := by
  refine pe_weak (pe_not ha) fun σ H Q h => ?_
  obtain ⟨hid, η, st, ρ, rel, env, h⟩ := h
  rw [evE] at h
  refine tE1 rel env h fun x η1 st1 H1 r1 g1 e1 u ru q => ?_
  obtain ⟨z, et, q⟩ := Res.ofO q
  cases e2 : truth x with
  | none => rw [e2] at et; cases et
  | some t =>
    rw [e2] at et; cases et
    obtain ⟨rfl, rfl⟩ := truth_bl e2 ru
    exact ⟨t, rfl, q η1 H1 r1 Gr.refl _ (by simp [Rep])⟩
theorem st_no (ha : PT X a (tT C ia)) : PT X (.UnaryOp .Not a pos) (tT C (.no ia)) := by
  refine pt_weak (pt_not ha) fun σ H Q h => ?_
  obtain ⟨hid, η, st, ρ, rel, env, h⟩ := h
  rw [evE, R.bind_assoc] at h
  refine ⟨hid, η, st, ρ, rel, env, ?_⟩
  cases e1 : evE C.G C.fr ia ρ st with
  | ok x s =>
    rw [e1] at h
    simp only [R.bind_ok] at h ⊢
    cases e2 : truth x with
    | none => rw [e2] at h; exact h.elim
    | some t => rw [e2] at h; exact h
  | exc x s => rw [e1] at h; exact h
  | bad => rw [e1] at h; exact h
/-- an expression whose value is a bool, as a test -/
theorem st_val {e : Expr} {ie : E} (h : PE X e (tE C ie)) (he : ∀ whole, isTrue e X.env whole = (do let v ← whole; standAt e.pos; holding [v] (truthy v))) : PT X e (tT C ie) := by
  refine pt_weak (pt_val h he) fun σ H Q h => ?_
  obtain ⟨hid, η, st, ρ, rel, env, h⟩ := h
  refine ⟨hid, η, st, ρ, rel, env, h.bind.mono fun x η1 st1 H1 r1 g1 q u ru => ?_⟩
  obtain ⟨t, et, q⟩ := Res.ofO q
  obtain ⟨rfl, rfl⟩ := truth_bl et ru
  exact ⟨t, rfl, q η1 H1 r1 Gr.refl⟩
theorem se_ite (hc : PT X c (tT C ic)) (ha : PE X a (tE C ia)) (hb : PE X b (tE C ib)) : PE X (.IfExp c a b pos) (tE C (.ite ic ia ib)) := by
  refine pe_weak (pe_ifExp hc ha hb) fun σ H Q h => ?_
  obtain ⟨hid, η, st, ρ, rel, env, h⟩ := h
  rw [evE] at h
  refine tT1 rel env h fun t η1 st1 H1 r1 g1 e1 q => ?_
  cases t with
  | true => rw [if_pos rfl] at q ⊢; exact ⟨hid, η1, st1, ρ, r1, e1, q⟩
  | false => rw [if_neg (by decide)] at q ⊢; exact ⟨hid, η1, st1, ρ, r1, e1, q⟩
theorem se_neg (ha : PE X a (tE C ia)) : PE X (.UnaryOp .USub a pos) (tE C (.neg ia)) := by
  refine pe_weak (pe_un un_neg ha) fun σ H Q h => ?_
  obtain ⟨hid, η, st, ρ, rel, env, h⟩ := h
  rw [evE] at h
  refine tE1 rel env h fun x η1 st1 H1 r1 g1 e1 u ru q => ?_
  cases x with
  | int i =>
    obtain rfl : u = .int i := by simpa [Rep] using ru
    exact ⟨i, rfl, q η1 H1 r1 Gr.refl _ (by simp [Rep])⟩
  | _ => exact q.elim
/-! ### is -/
theorem rep_non {W : Wl} {T : Addr → Prop} {x : Va} {u : V} (r : Rep W T η H x u) : decide (u = .non) = isN x := by
  cases x with
  | non => simp only [Rep] at r; subst r; rfl
  | bl _ => simp only [Rep] at r; subst r; rfl
  | int _ => simp only [Rep] at r; subst r; rfl
  | str _ => simp only [Rep] at r; subst r; rfl
  | fn _ => simp only [Rep] at r; subst r; rfl
  | clo _ _ => simp only [Rep] at r
  | ref _ => simp only [Rep] at r; obtain ⟨_, _, rfl⟩ := r; rfl
  | tup _ => simp only [Rep] at r; obtain ⟨_, _, rfl, _⟩ := r; rfl
  | lst _ => simp only [Rep] at r; obtain ⟨_, _, rfl, _⟩ := r; rfl
  | lck _ => simp only [Rep] at r; obtain ⟨_, _, rfl, _⟩ := r; rfl
  | dct _ => simp only [Rep] at r; obtain ⟨_, _, rfl, _⟩ := r; rfl
  | ins _ _ => simp only [Rep] at r; obtain ⟨_, _, _, rfl, _⟩ := r; rfl
  | exc _ _ => simp only [Rep] at r; obtain ⟨_, _, _, rfl, _⟩ := r; rfl
variable {j : Nat} {p2 : Pos}
theorem se_isN (ha : PE X a (tE C ia)) : PE X (.Compare a [.Is] [.Constant .none j p2] pos) (tE C (.isC false ia .non)) := by
  refine pe_weak (pe_cmpR op_isN ha pe_non (nomark _)) fun σ H Q h => ?_
  obtain ⟨hid, η, st, ρ, rel, env, h⟩ := h
  rw [evE] at h
  refine tE1 rel env h fun x η1 st1 H1 r1 g1 e1 u ru q => ⟨rfl, ?_⟩
  rw [rep_non ru]
  exact q η1 H1 r1 Gr.refl _ (by simp [Rep])
theorem se_notN (ha : PE X a (tE C ia)) : PE X (.Compare a [.IsNot] [.Constant .none j p2] pos) (tE C (.isC true ia .non)) := by
  refine pe_weak (pe_cmpR op_notN ha pe_non (nomark _)) fun σ H Q h => ?_
  obtain ⟨hid, η, st, ρ, rel, env, h⟩ := h
  rw [evE] at h
  refine tE1 rel env h fun x η1 st1 H1 r1 g1 e1 u ru q => ⟨rfl, ?_⟩
  rw [rep_non ru]
  exact q η1 H1 r1 Gr.refl _ (by simp [Rep])
theorem se_isB {y : Bool} (ha : PE X a (tE C ia)) : PE X (.Compare a [.Is] [.Constant (.bool y) j p2] pos) (tE C (.isC false ia (.bl y))) := by
  refine pe_weak (pe_cmpR op_isBl ha pe_bl (nomark _)) fun σ H Q h => ?_
  obtain ⟨hid, η, st, ρ, rel, env, h⟩ := h
  rw [evE] at h
  refine tE1 rel env h fun x η1 st1 H1 r1 g1 e1 u ru q => ?_
  cases x with
  | bl x =>
    obtain rfl : u = .bl x := by simpa [Rep] using ru
    exact ⟨x, y, rfl, rfl, q η1 H1 r1 Gr.refl _ (by simp [Rep])⟩
  | _ => exact q.elim
theorem se_notB {y : Bool} (ha : PE X a (tE C ia)) : PE X (.Compare a [.IsNot] [.Constant (.bool y) j p2] pos) (tE C (.isC true ia (.bl y))) := by
  refine pe_weak (pe_cmpR op_notBl ha pe_bl (nomark _)) fun σ H Q h => ?_
  obtain ⟨hid, η, st, ρ, rel, env, h⟩ := h
  rw [evE] at h
  refine tE1 rel env h fun x η1 st1 H1 r1 g1 e1 u ru q => ?_
  cases x with
  | bl x =>
    obtain rfl : u = .bl x := by simpa [Rep] using ru
    exact ⟨x, y, rfl, rfl, q η1 H1 r1 Gr.refl _ (by simp [Rep])⟩
  | _ => exact q.elim
/-- a comparison of any form whose value is read, as a test -/
theorem st_isC {o : CmpOp} {cn : Expr} {ie : E} {r : R2} {tb : TE} (ho : OpR X (compareOp o) r) (ha : PE X a (tE C ia)) (hb : PE X cn tb) (hm : behindInMarks o cn = false)
    (hw : ∀ σ H Q, tE C ie σ H Q → tOp r (tE C ia) tb σ H Q) : PT X (.Compare a [o] [cn] pos) (tT C ie) := by
  refine pt_weak (pt_cmpR ho ha hb hm) fun σ H Q h => ?_
  obtain ⟨hid, η, st, ρ, rel, env, h⟩ := h
  refine hw σ H _ ⟨hid, η, st, ρ, rel, env, h.bind.mono fun x η1 st1 H1 r1 g1 q u ru => ?_⟩
  obtain ⟨t, et, q⟩ := Res.ofO q
  obtain ⟨rfl, rfl⟩ := truth_bl et ru
  exact ⟨t, rfl, q η1 H1 r1 Gr.refl⟩
end
end M
end
section
set_option Elab.async false
set_option linter.all false
set_option maxRecDepth 10000
set_option autoImplicit false
/-! Sem14: subscripts, slices, attributes, displays. -/
namespace M
open PySem PySem.Spec PyProof.Rows L2
section
variable {W : Wl} {T : Addr → Prop} {η : List Addr} {H : Hp}
theorem Reps.drop : ∀ {vs : List Va} {us : List V} (n : Nat), Reps W T η H vs us → Reps W T η H (vs.drop n) (us.drop n)
  | _, _, 0, h => by simpa using h
  | [], us, n + 1, h => by simp only [Reps] at h; subst h; simp [Reps]
  | v :: vs, _, n + 1, h => by
    simp only [Reps] at h
    obtain ⟨u, us, rfl, _, h⟩ := h
    simpa using Reps.drop n h
theorem Reps.take : ∀ {vs : List Va} {us : List V} (n : Nat), Reps W T η H vs us → Reps W T η H (vs.take n) (us.take n)
  | _, _, 0, h => by simp [Reps]
  | [], us, n + 1, h => by simp only [Reps] at h; subst h; simp [Reps]
  | v :: vs, _, n + 1, h => by
    simp only [Reps] at h
    obtain ⟨u, us, rfl, h1, h⟩ := h
    simp only [List.take_succ_cons, Reps]
    exact ⟨u, _, rfl, h1, Reps.take n h⟩
theorem Reps.cutV {vs : List Va} {us : List V} (lo hi : Option Int) (h : Reps W T η H vs us) : Reps W T η H (M.cut vs lo hi) (L2.cutV us lo hi) := by
  unfold M.cut L2.cutV
  rw [h.length]
  exact (h.drop _).take _
theorem Reps.rev : ∀ {vs : List Va} {us : List V}, Reps W T η H vs us → Reps W T η H vs.reverse us.reverse
  | [], us, h => by simp only [Reps] at h; subst h; simp [Reps]
  | v :: vs, _, h => by
    simp only [Reps] at h
    obtain ⟨u, us, rfl, h1, h⟩ := h
    rw [List.reverse_cons, List.reverse_cons]
    exact h.rev.append (by simp only [Reps]; exact ⟨u, [], rfl, h1, rfl⟩)
theorem sS_inj {x y : String} (h : sS x = sS y) : x = y := by
  replace h : Str.ofString x = Str.ofString y := h
  rw [Str.ofString_eq_toList, Str.ofString_eq_toList] at h
  have h1 : x.toList.map Char.toNat = y.toList.map Char.toNat := by
    have := congrArg (fun s : Str => s.cps.toList) h
    simpa using this
  have inj : ∀ {l m : List Char}, l.map Char.toNat = m.map Char.toNat → l = m := by
    intro l
    induction l with
    | nil => intro m h; cases m with
      | nil => rfl
      | cons => cases h
    | cons a l ih =>
      intro m h
      cases m with
      | nil => cases h
      | cons b m =>
        rw [List.map_cons, List.map_cons] at h
        injection h with h1 h2
        have e : a = b := Char.ext (UInt32.toNat_inj.mp h1)
        rw [e, ih h2]
  exact String.toList_inj.mp (inj h1)
theorem RepF.get : ∀ {fs : List (String × Va)} {us : List (Str × V)} {f : String} {v : Va}, RepF W T η H fs us → getF fs f = some v → ∃ u, us.lookup (sS f) = some u ∧ Rep W T η H v u
  | [], _, _, _, _, h => by cases h
  | (g, w) :: fs, _, f, v, r, h => by
    simp only [RepF] at r
    obtain ⟨u, us, rfl, r1, r2⟩ := r
    unfold getF at h
    rw [List.lookup_cons] at h
    by_cases q : f = g
    · subst q
      simp at h
      subst h
      exact ⟨u, by rw [List.lookup_cons]; simp, r1⟩
    · have e : (f == g) = false := beq_eq_false_iff_ne.mpr q
      rw [e] at h
      have e2 : (sS f == sS g) = false := beq_eq_false_iff_ne.mpr fun z => q (sS_inj z)
      rw [List.lookup_cons, e2]
      exact RepF.get r2 h
theorem RepF.put : ∀ {fs : List (String × Va)} {us : List (Str × V)} {f : String} {v : Va} {u : V}, RepF W T η H fs us → Rep W T η H v u → RepF W T η H (M.putF fs f v) (L2.putF (sS f) u us)
  | [], _, f, v, u, r, h => by simp only [RepF] at r; subst r; simp only [M.putF, L2.putF, RepF]; exact ⟨u, [], rfl, h, rfl⟩
  | (g, w) :: fs, _, f, v, u, r, h => by
    simp only [RepF] at r
    obtain ⟨u', us, rfl, r1, r2⟩ := r
    unfold M.putF L2.putF
    by_cases q : g = f
    · subst q
      rw [if_pos rfl, if_pos rfl]
      simp only [RepF]
      exact ⟨u, us, rfl, h, r2⟩
    · rw [if_neg q, if_neg fun z => q (sS_inj z)]
      simp only [RepF]
      exact ⟨u', _, rfl, r1, RepF.put r2 h⟩
theorem RepF.length : ∀ {fs : List (String × Va)} {us : List (Str × V)}, RepF W T η H fs us → fs.length = us.length
  | [], _, r => by simp only [RepF] at r; subst r; rfl
  | (g, w) :: fs, _, r => by
    simp only [RepF] at r
    obtain ⟨u', us, rfl, r1, r2⟩ := r
    simp [r2.length]
end
/-- the classes whose fields are known -/
def AtOk (C : Cfg) : Prop := ∀ D f, hasF C.G D f = true → Cls C.W.K (C.W.adr D) ∧ NoAttr C.W.K (C.W.adr D) (sS f)
def nsup : Expr → Bool
  | .Call _ [] _ _ => false
  | _ => true
theorem attrBase {o : Expr} {f : Str} {env : Env} {whole : Sem Value} (h : nsup o = true) : attributeBase o f env whole = whole := by
  cases o <;> first
    | rfl
    | (rename_i g as kw p; cases as with
      | nil => cases h
      | cons a as => cases g <;> rfl)
def plainIx : Expr → Bool
  | .Slice _ _ _ _ => false
  | _ => true
theorem plainIx_ok {b : Expr} (h : plainIx b = true) : PlainIx b := fun o i => by
  cases b <;> first | rfl | cases h
section
variable {C : Cfg} {α β : Type} {hid : Addr → Prop} {η : List Addr} {st : Sto} {H : Hp} {σ : L2.St} {ρ : Sl}
variable {X : Cx} {a b : Expr} {ia ib : E} {pos p2 : Pos}
theorem ix_dK (hu : X.A.units + 64 < cLine) : IxR X (fun x y H Q => ∃ a v, x = .ref a ∧ DGet H a y (some v) ∧ Q v H) := by
  intro value slice pins s σ H x y v u Q I rx ry h hs
  obtain ⟨a, w, rfl, g, q⟩ := h
  obtain rfl : v = Value.ref a := rx
  exact tail_any (dict_typeIs I g) slot_dict_getitem.lookup (d_getItem (by omega) I g ry fun w' s' I' rw' => ⟨w, H, I', rw', q⟩) hs
def rIdx (K : PySem.W.Frag) : R2 := fun x y H Q => rIx K x y H Q ∨ ∃ a v, x = .ref a ∧ DGet H a y (some v) ∧ Q v H
theorem se_idx (hK : X.K = C.W.K) (hu : X.A.units + 64 < cLine) (ha : PE X a (tE C ia)) (hb : PE X b (tE C ib)) (hs : plainIx b = true) : PE X (.Subscript a b pos) (tE C (.idx ia ib)) := by
  refine pe_weak (pe_ix (r := rIdx X.K) (ix_seq.or (ix_dK hu)) ha hb (plainIx_ok hs)) fun σ H Q h => ?_
  obtain ⟨hid, η, st, ρ, rel, env, h⟩ := h
  rw [evE] at h
  refine tE2 rel env h fun x y η1 st1 H1 r1 g1 e1 u w ru rw' q => ?_
  obtain ⟨z, ez, q0⟩ := Res.ofO q
  have row : ∀ {vs : List Va} {us : List V}, Reps C.W (Tb hid η1 st1) η1 H1 vs us → (∃ k, y = .int k ∧ ((seqI vs.length k).bind fun j => vs[j]?) = some z) → ∃ k v, w = .int k ∧ atI us k = some v ∧ Rep C.W (Tb hid η1 st1) η1 H1 z v := fun {vs us} rs ⟨k, ey, e⟩ => by
    subst ey
    obtain ⟨j, e1, e2⟩ := Option.bind_eq_some_iff.mp e
    obtain ⟨v, h1, h2⟩ := rs.get e2
    refine ⟨k, v, by simpa [Rep] using rw', ?_, h2⟩
    show (ixN us.length k).bind (fun j => us[j]?) = some v
    rw [← rs.length, show ixN vs.length k = some j from e1]
    exact h1
  unfold idxop at ez
  split at ez
  · rename_i vs e2
    obtain ⟨p, us, rfl, h1, h2⟩ := rd_lst r1 e2 ru
    split at ez
    · obtain ⟨k, v, rfl, hv, rv⟩ := row h2 ⟨_, rfl, ez⟩
      exact .inl (.inl ⟨p, us, k, v, rfl, rfl, SqL.of h1, hv, q0 η1 H1 r1 Gr.refl _ rv⟩)
    · cases ez
  · rename_i vs e2
    obtain ⟨_, p, us, rfl, h1, h2⟩ := rd_tup e2 ru
    split at ez
    · obtain ⟨k, v, rfl, hv, rv⟩ := row h2 ⟨_, rfl, ez⟩
      exact .inl (.inr (.inl ⟨p, us, k, v, rfl, rfl, by rw [hK]; exact h1.sq, hv, q0 η1 H1 r1 Gr.refl _ rv⟩))
    · cases ez
  · rename_i s e2
    obtain ⟨_, rfl⟩ := rd_str e2 ru
    split at ez
    · rename_i k
      split at ez
      · rename_i hsm
        obtain ⟨c, ec, rfl⟩ := Option.map_eq_some_iff.mp ez
        obtain ⟨j, e3, e4⟩ := Option.bind_eq_some_iff.mp ec
        refine .inl (.inr (.inr ⟨cS s, k, c, rfl, by simpa [Rep] using rw', by rw [cS_len]; exact Lm_line hsm, ?_, q0 η1 H1 r1 Gr.refl _ (by simp [Rep, cS])⟩))
        show (ixN s.length k).bind (fun j => s[j]?) = some c
        rw [show ixN s.length k = some j from e3]
        exact e4
      · cases ez
    · cases ez
  · rename_i kvs e2
    obtain ⟨p, us, rfl, h1, h2⟩ := rd_dct r1 e2 ru
    split at ez
    · rename_i hk
      obtain ⟨o, g, ho⟩ := dget_of h1 h2 hk rw'
      rcases ho with ⟨z1, _⟩ | ⟨v, u', z1, rfl, rv⟩
      · rw [ez] at z1; cases z1
      · rw [ez] at z1; cases z1
        exact .inr ⟨p, u', rfl, g, q0 η1 H1 r1 Gr.refl _ rv⟩
    · cases ez
  · cases ez
/-! ### slices -/
def tOpt (C : Cfg) (o : Option E) : TO := fun σ H Q => ∃ hid η st ρ, Rel C.W hid η st H ∧ EnvR C.W (Tb hid η st) η H ρ σ ∧ Res C hid η st H σ (evO C.G C.fr o ρ st) fun v _ _ H' => Q v H'
theorem po_weak {e : Option Expr} {t t' : TO} (h : PO X e t) (m : ∀ σ H Q, t' σ H Q → t σ H Q) : PO X e t' := ⟨fun pins s σ H Q I q => h.run pins s σ H Q I (m σ H Q q)⟩
theorem so_none : PO X none (tOpt C none) := by
  refine po_weak po_none fun σ H Q h => ?_
  obtain ⟨hid, η, st, ρ, rel, env, h⟩ := h
  rw [evO] at h
  exact h η H rel Gr.refl
theorem so_some (ha : PE X a (tE C ia)) : PO X (some a) (tOpt C (some ia)) := by
  refine po_weak (po_some ha) fun σ H Q h => ?_
  obtain ⟨hid, η, st, ρ, rel, env, h⟩ := h
  rw [evO] at h
  refine tE1 rel env h fun x η1 st1 H1 r1 g1 e1 u ru q => ?_
  cases x with
  | int i => exact ⟨i, by simpa [Rep] using ru, q η1 H1 r1 Gr.refl⟩
  | _ => exact q.elim
def rSl3 (K : PySem.W.Frag) : V → Option Int → Option Int → Hp → VK → Prop := fun x lo hi H Q => (rSlL K x lo hi H Q ∨ rSlA K x lo hi H Q) ∨ rSlS x lo hi H Q
theorem cutS_eq (s : List Nat) (lo hi : Option Int) : cutS (cS s) lo hi = cS (M.cut s lo hi) := by
  apply TL.ext_tl
  simp [cutS, cS, M.cut, TL.tl, Str.length]
theorem se_slice {lo hi : Option Expr} {il ih : Option E} (hK : X.K = C.W.K) (ha : PE X a (tE C ia)) (hl : PO X lo (tOpt C il)) (hh : PO X hi (tOpt C ih)) : PE X (.Subscript a (.Slice lo hi none p2) pos) (tE C (.sl ia il ih)) := by
  refine pe_weak (pe_slice (r := rSl3 X.K) ((sl_list.or sl_tupA).or sl_str) ha hl hh) fun σ H Q h => ?_
  obtain ⟨hid, η, st, ρ, rel, env, h⟩ := h
  rw [evE] at h
  refine tE1 rel env h fun x η1 st1 H1 r1 g1 e1 u ru q => ?_
  refine ⟨hid, η1, st1, ρ, r1, e1, q.bind.mono fun l η2 st2 H2 r2 g2 q2 => ?_⟩
  refine ⟨hid, η2, st2, ρ, r2, e1.gr g2, q2.bind.mono fun hv η3 st3 H3 r3 g3 q3 => ?_⟩
  obtain ⟨z, ez, q0⟩ := Res.ofO q3
  have ru := ru.gr (g2.trans g3)
  unfold slop at ez
  split at ez
  · rename_i vs e2
    cases ez
    obtain ⟨p, us, rfl, h1, h2⟩ := rd_lst r3 e2 ru
    exact .inl (.inl ⟨p, us, rfl, SqL.of h1, new_lst r3 (h2.cutV l hv) q0⟩)
  · rename_i vs e2
    cases ez
    obtain ⟨ev, p, us, rfl, h1, h2⟩ := rd_tup e2 ru
    refine .inl (.inr ⟨p, us, rfl, by rw [hK]; exact h1.sq, fun hw => ?_, fun _ => new_tup r3 (h2.cutV l hv) q0⟩)
    have e : M.cut vs l hv = vs := by
      unfold M.cut
      rw [h2.length, hw.1, hw.2, List.drop_zero, Nat.sub_zero, ← h2.length, List.take_length]
    rw [e] at q0
    rw [ev] at ru
    exact q0 η3 H3 r3 Gr.refl _ ru
  · rename_i s e2
    obtain ⟨_, rfl⟩ := rd_str e2 ru
    split at ez
    · rename_i hsm
      cases ez
      exact .inr ⟨cS s, rfl, by rw [cS_len]; exact Lm_line hsm, q0 η3 H3 r3 Gr.refl _ (by simp [Rep, cutS_eq])⟩
    · cases ez
  · cases ez
theorem se_rev {j : Nat} {q1 q2 q3 : Pos} (hK : X.K = C.W.K) (ha : PE X a (tE C ia)) : PE X (.Subscript a (.Slice none none (some (.UnaryOp .USub (.Constant (.int 1) j q1) q2)) q3) pos) (tE C (.rev ia)) := by
  refine pe_weak (pe_revL ha) fun σ H Q h => ?_
  obtain ⟨hid, η, st, ρ, rel, env, h⟩ := h
  rw [evE] at h
  refine tE1 rel env h fun x η1 st1 H1 r1 g1 e1 u ru q => ?_
  obtain ⟨z, ez, q⟩ := Res.ofO q
  unfold revop at ez
  split at ez
  · rename_i vs e2
    cases ez
    obtain ⟨p, us, rfl, h1, h2⟩ := rd_lst r1 e2 ru
    exact ⟨p, us, rfl, SqL.of h1, new_lst r1 h2.rev q⟩
  · cases ez
/-! ### attributes -/
theorem se_attr {f : String} {x : Str} (hx : sS f = x) (ok : AtOk C) (hK : X.K = C.W.K) (ha : PE X a (tE C ia)) (hn : nsup a = true) : PE X (.Attribute a x pos) (tE C (.attr ia f)) := by
  subst hx
  refine pe_weak (pe_fld ha (attrBase hn)) fun σ H Q h => ?_
  obtain ⟨hid, η, st, ρ, rel, env, h⟩ := h
  rw [evE] at h
  refine tE1 rel env h fun x η1 st1 H1 r1 g1 e1 u ru q => ?_
  cases e2 : rd st1 x with
  | ins D fs =>
    rw [e2] at q
    simp only at q
    split at q
    · rename_i hf
      obtain ⟨z, ez, q⟩ := Res.ofO q
      obtain ⟨p, dx, us, rfl, h1, h2⟩ := rd_ins r1 e2 ru
      obtain ⟨c1, c2⟩ := ok D f hf
      obtain ⟨v, hv, rv⟩ := h2.get ez
      exact ⟨p, _, dx, us, v, rfl, h1, by rw [hK]; exact c1, by rw [hK]; exact c2, hv, q η1 H1 r1 Gr.refl _ rv⟩
    · exact q.elim
  | _ => rw [e2] at q; exact q.elim
/-! ### displays -/
theorem small_line {n : Nat} (h : n ≤ 1000) : n ≤ sizeLine := by rw [sizeLine_eq]; omega
theorem se_tup {es : List Expr} {ies : List E} {k : Nat} (ha : PA X es (tEs C ies)) (hn : ies.length ≤ 1000) : PE X (.Tuple es k pos) (tE C (.tup ies)) := by
  refine pe_weak (pe_tup ha) fun σ H Q h => ?_
  obtain ⟨hid, η, st, ρ, rel, env, h⟩ := h
  rw [evE] at h
  refine ⟨hid, η, st, ρ, rel, env, h.bind.monoR fun vs η1 st1 H1 er r1 g1 q us rus => ⟨?_, new_tup r1 rus q⟩⟩
  rw [← rus.length, evEs_len er]; exact small_line hn
/-- a list, a dict, fresh: an object of the store, or by value -/
theorem fr_lst {m : Bool} {vs : List Va} {us : List V} {Q : VK} (rel : Rel C.W hid η st H) (r : Reps C.W (Tb hid η st) η H vs us) (q : Res C hid η st H σ (fresh m (.lst vs) st) fun v η' st' H' => ∀ u, Rep C.W (Tb hid η' st') η' H' v u → Q u H') :
    ∀ p, H p = none → Q (.ref p) (upd H p (.lst us)) := fun p hp => by
  cases m with
  | false => exact new_lst rel r q p hp
  | true =>
    obtain ⟨r2, g2⟩ := rel.alloc (ob := .lst vs) (o := .lst us) hp rfl ⟨us, upd_same, Reps.mono ⟨[], by simp⟩ (fun c w e nt => ⟨by rw [upd_ne (ne_of_none e hp)]; exact e, fun z => by
      rcases z with (z | z) | z
      · exact nt (.inl z)
      · exact ne_of_none e hp z
      · exact nt (.inr z)⟩) _ _ r⟩
    exact q _ _ r2 g2 _ (by simp only [Rep]; exact ⟨p, by rw [← rel.len]; simp, rfl⟩)
theorem se_lst {m : Bool} {es : List Expr} {ies : List E} (ha : PA X es (tEs C ies)) (hn : ies.length ≤ 1000) : PE X (.List es pos) (tE C (.lst m ies)) := by
  refine pe_weak (pe_lst ha) fun σ H Q h => ?_
  obtain ⟨hid, η, st, ρ, rel, env, h⟩ := h
  rw [evE] at h
  refine ⟨hid, η, st, ρ, rel, env, h.bind.monoR fun vs η1 st1 H1 er r1 g1 q us rus => ⟨?_, fr_lst r1 rus q⟩⟩
  rw [← rus.length, evEs_len er]; exact small_line hn
end
end M
end
section
set_option Elab.async false
set_option linter.all false
set_option maxRecDepth 10000
set_option autoImplicit false
/-! Sem15: dict displays, isinstance, built-ins, append. -/
namespace M
open PySem PySem.Spec PyProof.Rows L2
/-! ### a hidden object is written -/
section
variable {W : Wl} {hid : Addr → Prop} {η : List Addr} {st : Sto} {H : Hp} {p : Addr}
theorem hk_hid {o : HO} : ∀ (c : Addr) (w : HO), H c = some w → ¬ Tb (hid1 hid p) η st c → upd H p o c = some w ∧ ¬ Tb (hid1 hid p) η st c := fun c w e nt =>
  ⟨by rw [upd_ne (fun z => nt (.inl (.inr z)))]; exact e, nt⟩
theorem Rel.wrHid {o : HO} (r : Rel W (hid1 hid p) η st H) : Rel W (hid1 hid p) η st (upd H p o) := by
  refine ⟨r.len, fun n u b e1 e2 => ?_, r.inj, fun b hb z => ?_, r.sep⟩
  · cases ha : alive u with
    | false => cases u <;> first | trivial | cases ha
    | true =>
      have nb : b ≠ p := fun z => r.sep b (.inr z) ⟨n, u, e1, ha, e2⟩
      exact (r.obs n u b e1 e2).mono ⟨[], by simp⟩ hk_hid fun w e => by rw [upd_ne nb]; exact e
  · by_cases q : b = p
    · subst q; rw [upd_same] at z; cases z
    · rw [upd_ne q] at z; exact r.hd b hb z
theorem Rep.wrHid {o : HO} {v : Va} {u : V} (x : Rep W (Tb (hid1 hid p) η st) η H v u) : Rep W (Tb (hid1 hid p) η st) η (upd H p o) v u := Rep.mono ⟨[], by simp⟩ hk_hid v u x
theorem Reps.wrHid {o : HO} {v : List Va} {u : List V} (x : Reps W (Tb (hid1 hid p) η st) η H v u) : Reps W (Tb (hid1 hid p) η st) η (upd H p o) v u := Reps.mono ⟨[], by simp⟩ hk_hid v u x
theorem RepK.wrHid {o : HO} {v : List (Va × Va)} {u : List (Key × V)} (x : RepK W (Tb (hid1 hid p) η st) η H v u) : RepK W (Tb (hid1 hid p) η st) η (upd H p o) v u := RepK.mono ⟨[], by simp⟩ hk_hid v u x
theorem EnvR.hide {ρ : Sl} {σ : L2.St} {o : HO} (h : H p = none) (e : EnvR W (Tb hid η st) η H ρ σ) : EnvR W (Tb (hid1 hid p) η st) η (upd H p o) ρ σ :=
  ⟨e.len, fun i v hv => let ⟨u, e1, r⟩ := e.get i v hv; ⟨u, e1, r.hide h⟩⟩
theorem Gr.hidden {η' : List Addr} {st' : Sto} {H' : Hp} {o : HO} (h : H p = none) (g : Gr η st (upd H p o) η' st' H') : Gr η st H η' st' H' := (Gr.laid h).trans g
/-- a hidden list, a hidden dict shown: an object of the store, or by value -/
theorem fr_hidL {C : Cfg} {σ : L2.St} {m : Bool} {vs : List Va} {us : List V} {Q : VK} {η0 : List Addr} {st0 : Sto} {H0 : Hp} (h0 : H0 p = none) (nh : ¬ hid p) (g : Gr η0 st0 H0 η st H) (rel : Rel C.W (hid1 hid p) η st H) (r : Reps C.W (Tb (hid1 hid p) η st) η H vs us)
    (hp : H p = some (.lst us)) (q : Res C hid η0 st0 H0 σ (fresh m (.lst vs) st) fun v η' st' H' => ∀ u, Rep C.W (Tb hid η' st') η' H' v u → Q u H') : Q (.ref p) H := by
  cases m with
  | false =>
    refine q η H rel.unhide g _ ?_
    simp only [Rep]
    exact ⟨p, us, rfl, ⟨hp, fun z => z.elim nh fun z => rel.sep p (.inr rfl) z⟩, r.unhide⟩
  | true =>
    refine q _ H (rel.shown (ob := .lst vs) nh rfl ⟨us, hp, r⟩) (g.shown rel.len h0) _ ?_
    simp only [Rep]
    exact ⟨p, by rw [← rel.len]; simp, rfl⟩
theorem fr_hidD {C : Cfg} {σ : L2.St} {m : Bool} {vs : List (Va × Va)} {us : List (Key × V)} {Q : VK} {η0 : List Addr} {st0 : Sto} {H0 : Hp} (h0 : H0 p = none) (nh : ¬ hid p) (g : Gr η0 st0 H0 η st H) (rel : Rel C.W (hid1 hid p) η st H) (r : RepK C.W (Tb (hid1 hid p) η st) η H vs us)
    (hp : H p = some (.dK us)) (q : Res C hid η0 st0 H0 σ (fresh m (.dct vs) st) fun v η' st' H' => ∀ u, Rep C.W (Tb hid η' st') η' H' v u → Q u H') : Q (.ref p) H := by
  cases m with
  | false =>
    refine q η H rel.unhide g _ ?_
    simp only [Rep]
    exact ⟨p, us, rfl, fun z => z.elim nh fun z => rel.sep p (.inr rfl) z, hp, RepK.mono ⟨[], by simp⟩ (fun c w e nt => ⟨e, fun z => nt (z.elim (fun z => .inl (.inl z)) .inr)⟩) _ _ r⟩
  | true =>
    refine q _ H (rel.shown (ob := .dct vs) nh rfl ⟨us, hp, r⟩) (g.shown rel.len h0) _ ?_
    simp only [Rep]
    exact ⟨p, by rw [← rel.len]; simp, rfl⟩
end
section
variable {C : Cfg} {α β : Type} {hid : Addr → Prop} {η : List Addr} {st : Sto} {H : Hp} {σ : L2.St} {ρ : Sl}
theorem pairs_red : ∀ {ks : List V} {ies : List E} {hid : Addr → Prop} {η : List Addr} {st : Sto} {H : Hp} {Kk : List Va → List Addr → Sto → Hp → Prop}, ks.length = ies.length → Rel C.W hid η st H → EnvR C.W (Tb hid η st) η H ρ σ →
    Res C hid η st H σ (evEs C.G C.fr ies ρ st) Kk → ∀ {R : List (V × V) → Hp → Prop}, (∀ vs us η' st' H', Rel C.W hid η' st' H' → Gr η st H η' st' H' → Reps C.W (Tb hid η' st') η' H' vs us → Kk vs η' st' H' → R (ks.zip us) H') → tPairs (List.zipWith (fun k e => (tC k, tE C e)) ks ies) σ H R
  | [], [], hid, η, st, H, Kk, _, rel, env, h, R, hr => by
    rw [evEs] at h
    exact hr [] [] η st H rel Gr.refl (by simp [Reps]) (h η H rel Gr.refl)
  | [], _ :: _, _, _, _, _, _, hl, _, _, _, _, _ => by cases hl
  | _ :: _, [], _, _, _, _, _, hl, _, _, _, _, _ => by cases hl
  | k :: ks, e :: ies, hid, η, st, H, Kk, hl, rel, env, h, R, hr => by
    rw [evEs] at h
    show tC k σ H fun x H1 => tE C e σ H1 fun y H2 => _
    refine tE1 rel env h fun x η1 st1 H1 r1 g1 e1 u ru q => ?_
    refine pairs_red (by simpa using hl) r1 e1 q.bind fun vs us η2 st2 H2 r2 g2 rus q2 => ?_
    exact hr (x :: vs) (u :: us) η2 st2 H2 r2 (g1.trans g2) (by simp only [Reps]; exact ⟨u, us, rfl, ru.gr g2, rus⟩) (q2 η2 H2 r2 Gr.refl)
theorem RepK.merge {W : Wl} {T : Addr → Prop} {η : List Addr} {H : Hp} : ∀ {ks vs : List Va} {cs : List Key} {us : List V} {kvs : List (Va × Va)} {kus : List (Key × V)}, RepK W T η H kvs kus → ks.map keyV = cs.map some → ks.length = vs.length → Reps W T η H vs us →
    RepK W T η H ((ks.zip vs).foldl (fun d p => M.putK d p.1 p.2) kvs) (L2.mergeK kus (cs.zip us))
  | [], vs, cs, us, kvs, kus, r, hk, hl, rs => by
    cases cs with
    | nil => simpa [L2.mergeK] using r
    | cons => simp at hk
  | k :: ks, [], _, _, _, _, _, _, hl, _ => by cases hl
  | k :: ks, v :: vs, cs, us, kvs, kus, r, hk, hl, rs => by
    cases cs with
    | nil => simp at hk
    | cons c cs =>
      simp only [List.map_cons, List.cons.injEq] at hk
      simp only [Reps] at rs
      obtain ⟨u, us, rfl, r1, r2⟩ := rs
      show RepK W T η H ((ks.zip vs).foldl _ (M.putK kvs k v)) (L2.mergeK (L2.putK kus c u) (cs.zip us))
      exact RepK.merge (r.put hk.1 r1) hk.2 (by simpa using hl) r2
variable {X : Cx} {a b : Expr} {ia ib : E} {pos p2 : Pos}
theorem keyC {k : Va} (h : isKey k = true) : ∃ c, keyV k = some c := isKey_some h
theorem keys_of : ∀ {ks : List Va}, ks.all isKey = true → ∃ cs : List Key, ks.map keyV = cs.map some ∧ cs.length = ks.length
  | [], _ => ⟨[], rfl, rfl⟩
  | k :: ks, h => by
    rw [List.all_cons, Bool.and_eq_true] at h
    obtain ⟨c, hc⟩ := isKey_some h.1
    obtain ⟨cs, h1, h2⟩ := keys_of h.2
    exact ⟨c :: cs, by simp [hc, h1], by simp [h2]⟩
/-- what a constant key is -/
def conK : Expr → Va → Bool
  | .Constant (.str x) _ _, .str s => decide (x = cS s)
  | .Constant (.int i) _ _, .int j => decide (i = j)
  | _, _ => false
theorem conK_ok {e : Expr} {k : Va} {c : Key} (h : conK e k = true) (hc : keyV k = some c) : PE X e (tC (kV c)) := by
  unfold conK at h
  split at h
  · rw [of_decide_eq_true h]; cases hc; exact pe_str
  · rw [of_decide_eq_true h]; cases hc; exact pe_int
  · cases h
/-- keys and values of a display -/
inductive PKV (X : Cx) (C : Cfg) : List (Option Expr) → List Expr → List Va → List E → Prop where
  | nil : PKV X C [] [] [] []
  | cons {e v : Expr} {k : Va} {ie : E} {es vs ks ies} (h : conK e k = true) (hv : PE X v (tE C ie)) (t : PKV X C es vs ks ies) : PKV X C (some e :: es) (v :: vs) (k :: ks) (ie :: ies)
theorem PKV.pps {es : List (Option Expr)} {vs : List Expr} {ks : List Va} {ies : List E} (h : PKV X C es vs ks ies) : ∀ {cs : List Key}, ks.map keyV = cs.map some → PPs X pos es vs (List.zipWith (fun k e => (tC k, tE C e)) (cs.map kV) ies) ∧ es.all (·.isSome) = true ∧ es.length = vs.length ∧ es.length = ks.length ∧ ks.length = ies.length := by
  induction h with
  | nil => intro cs hk; cases cs with
    | nil => exact ⟨pps_nil, rfl, rfl, rfl, rfl⟩
    | cons => simp at hk
  | cons h hv t ih =>
    intro cs hk
    cases cs with
    | nil => simp at hk
    | cons c cs =>
      simp only [List.map_cons, List.cons.injEq] at hk
      obtain ⟨i1, i2, i3, i4, i5⟩ := ih hk.2
      exact ⟨pps_cons (conK_ok h hk.1) hv i1, by simpa using i2, by simp [i3], by simp [i4], by simp [i5]⟩
theorem se_dct {m : Bool} {es : List (Option Expr)} {vs : List Expr} {ks : List Va} {ies : List E} (hk : PKV X C es vs ks ies) (h0 : es ≠ []) (hall : ks.all isKey = true) (h15 : es.length ≤ 15) : PE X (.Dict es vs pos) (tE C (.dct m ks ies)) := by
  obtain ⟨cs, hcs, hcl⟩ := keys_of hall
  obtain ⟨h1, h2, h3, h4, h5⟩ := hk.pps (pos := pos) hcs
  refine pe_weak (pe_disp h1 h2 h3 h0 h15) fun σ H Q h => ?_
  obtain ⟨hid, η, st, ρ, rel, env, h⟩ := h
  rw [evE] at h
  intro p hp
  have np : ¬ hid p := fun z => rel.hd p z hp
  refine pairs_red (C := C) (Kk := fun ws η' st' H' => ws.length = ies.length ∧ Gr η st H η' st' H' ∧ Res C hid η st H σ (if ks.all isKey && decide (ks.length = ws.length) && decide (ks.length ≤ 15) then fresh m (.dct ((ks.zip ws).foldl (fun d p => putK d p.1 p.2) [])) st' else .bad) fun v η' st' H' => ∀ u, Rep C.W (Tb hid η' st') η' H' v u → Q u H')
    (by rw [List.length_map, hcl, h5]) (rel.hide hp) (env.hide hp) ?_ fun ws us η1 st1 H1 r1 g1 rus q => ?_
  · cases e : evEs C.G C.fr ies ρ st with
    | ok ws s =>
      rw [e] at h
      intro η' H' r' g'
      exact ⟨evEs_len e, g'.hidden hp, h⟩
    | exc x s =>
      rw [e] at h
      cases x with
      | exc D fs =>
        intro d us η' H' r' g' k1 k2 k3
        refine h d us η' H' r'.unhide (g'.hidden hp) k1 (fun z => k2 (z.elim (fun z => .inl (.inl z)) .inr)) ?_
        exact RepF.mono ⟨[], by simp⟩ (fun c w e nt => ⟨e, fun z => nt (z.elim (fun z => .inl (.inl z)) .inr)⟩) _ _ k3
      | _ => exact h
    | bad => rw [e] at h; exact h
  · obtain ⟨hw, gg, q⟩ := q
    have hc : (ks.all isKey && decide (ks.length = ws.length) && decide (ks.length ≤ 15)) = true := by
      rw [hall, decide_eq_true (by rw [hw, h5]), decide_eq_true (by omega)]; rfl
    rw [if_pos hc] at q
    have hp1 : H1 p = some (.dK []) := (g1.keep p _ upd_same fun z => (rel.hide (o := .dK []) hp).sep p (.inr rfl) z).1
    have el : us.length = ks.length := by rw [← rus.length, hw, h5]
    refine ⟨hp1, cs.zip us, ?_, by rw [List.length_zip, hcl]; omega, ?_⟩
    · rw [List.zip_map_left, List.map_eq_map_iff]
      rintro ⟨a, b⟩ _; rfl
    · have g2 : Gr η st H η1 st1 (upd H1 p (.dK (L2.mergeK [] (cs.zip us)))) := by
        refine ⟨gg.ids, fun c w e n => ?_⟩
        have k := gg.keep c w e n
        exact ⟨by rw [upd_ne (fun z => by rw [z, hp] at e; cases e)]; exact k.1, k.2⟩
      refine fr_hidD hp np g2 r1.wrHid (RepK.wrHid ?_) upd_same q
      exact RepK.merge (by simp [RepK]) hcs (by rw [hw, h5]) rus
/-- {} -/
theorem se_dct0 {m : Bool} : PE X (.Dict [] [] pos) (tE C (.dct m [] [])) := by
  refine pe_weak pe_dnewK fun σ H Q h => ?_
  obtain ⟨hid, η, st, ρ, rel, env, h⟩ := h
  rw [evE, evEs] at h
  simp only [R.bind_ok, List.all_nil, List.length_nil, decide_true, Bool.and_self, Nat.zero_le, if_true, List.zip_nil_left, List.foldl_nil] at h
  intro p hp
  exact fr_hidD hp (fun z => rel.hd p z hp) (Gr.laid hp) (rel.hide hp) (by simp [RepK]) upd_same h
end
end M
end
section
set_option Elab.async false
set_option linter.all false
set_option maxRecDepth 10000
set_option autoImplicit false
/-! Sem16: isinstance, built-ins, methods. -/
namespace M
open PySem PySem.Spec PyProof.Rows L2
/-! ### isinstance -/
def tyN : Va → String
  | .non => "NoneType"
  | .bl _ => "bool"
  | .int _ => "int"
  | .str _ => "str"
  | .tup _ => "tuple"
  | .lst _ | .lck _ => "list"
  | _ => "dict"
def tyOf : Ty → String
  | .int => "int"
  | .bool => "bool"
  | .str => "str"
  | .tuple => "tuple"
  | .list => "list"
  | .own _ => ""
def KitOk (C : Cfg) : Prop := (∀ D E, C.G.kit.contains (D, E) = true → kitI C.W.K (C.W.adr D) = true ∧ PySem.W.kitOne C.W.K (.ref (C.W.adr D)) (.ref (C.W.adr E)) = some (decide (D = E))) ∧ ∀ D, C.G.kitb.contains D = true → kitI C.W.K (C.W.adr D) = true ∧ kitE C.W.K (C.W.adr D) = true
/-- which of the base types is which -/
def baseIs (n m : String) : Bool := decide (n = m) || (decide (n = "bool") && decide (m = "int"))
theorem kit_base (K : PySem.W.Frag) : (bases.all fun n => ["int", "bool", "str", "tuple", "list"].all fun m => decide (PySem.W.kitOne K (.type n) (.type m) = some (baseIs n m))) = true := by
  kernel_rfl
theorem tyN_mem (v : Va) : tyN v ∈ bases := by cases v <;> simp [tyN, bases]
section
variable {C : Cfg} {α β : Type} {hid : Addr → Prop} {η : List Addr} {st : Sto} {H : Hp} {σ : L2.St} {ρ : Sl}
variable {X : Cx} {a b : Expr} {ia ib : E} {pos p2 p3 : Pos}
theorem tyx_base {x : Va} {u : V} (rel : Rel C.W hid η st H) (ru : Rep C.W (Tb hid η st) η H x u) (hb : isBase (rd st x) = true) : TyX C.W.K H u (.type (tyN (rd st x))) := by
  cases e : rd st x with
  | non =>
    rcases rd_cases x st with ⟨n, o, rfl, _, a, q⟩ | q
    · rw [e] at q; cases o <;> cases q
    · rw [e] at q; subst q; simp only [Rep] at ru; subst ru; exact .base .non
  | bl b => obtain ⟨_, rfl⟩ := rd_bl e ru; exact .base (.bl b)
  | int b => obtain ⟨_, rfl⟩ := rd_int e ru; exact .base (.int b)
  | str b => obtain ⟨_, rfl⟩ := rd_str e ru; exact .base (.str _)
  | tup vs =>
    obtain ⟨_, a, us, rfl, f, _⟩ := rd_tup e ru
    rcases f with ⟨f, _⟩ | ⟨o, its, n, h1, h2, _⟩
    · rcases f with f | ⟨o, f⟩
      · exact .base (.tup f)
      · exact .fTuple f
    · exact .kTuple h1 h2
  | lst vs => obtain ⟨a, us, rfl, f, _⟩ := rd_lst rel e ru; exact .base (.lst f)
  | lck vs =>
    obtain ⟨a, us, rfl, f, _⟩ := rd_lck e ru
    rcases f with ⟨f, _⟩ | ⟨o, its, n, h1, h2, _⟩
    · rcases f with f | ⟨o, f⟩
      · exact .base (.lst f)
      · exact .base (.frz f)
    · exact .kList h1 h2
  | dct vs => obtain ⟨a, us, rfl, f, _⟩ := rd_dct rel e ru; exact .base (.dK f)
  | _ => rw [e] at hb; cases hb
theorem getdesc (K : PySem.W.Frag) : PySem.W.specialIn K (.builtin "object.__class__") "__get__" = some (some (.builtin "getset_descriptor.__get__")) := by kernel_rfl
theorem takesdesc (K : PySem.W.Frag) : PySem.W.takesIn K (.builtin "object.__class__") = some true := by kernel_rfl
theorem tyx_ins {x : Va} {u : V} {D : String} {fs : List (String × Va)} (rel : Rel C.W hid η st H) (ru : Rep C.W (Tb hid η st) η H x u) (e : rd st x = .ins D fs) (k : kitI C.W.K (C.W.adr D) = true) : TyX C.W.K H u (.ref (C.W.adr D)) := by
  unfold kitI at k
  simp only [Bool.and_eq_true, decide_eq_true_eq] at k
  obtain ⟨⟨⟨⟨⟨k1, k2⟩, k3⟩, k4⟩, k5⟩, k6⟩ := k
  obtain ⟨a, dx, us, rfl, h1, _⟩ := rd_ins rel e ru
  exact .base (.ins h1 ⟨k1, k2, k3, k4⟩ k5 (getdesc _) (takesdesc _) k6)
/-- the class a type stands for -/
def tyV' (W : Wl) : Ty → Value
  | .own D => .ref (W.adr D)
  | t => .type (tyOf t)
def tyW (W : Wl) : Ty → V
  | .own D => .ref (W.adr D)
  | t => .ty (tyOf t)
def tvOf (W : Wl) : Va → Value
  | .ins D _ => .ref (W.adr D)
  | v => .type (tyN v)
theorem tyW_cls (W : Wl) (t : Ty) : ClsV (tyW W t) (tyV' W t) := by
  cases t <;> first | exact .ty _ | exact .own _
theorem kit_one (ok : KitOk C) {v : Va} {t : Ty} {k : Bool} (h : isTy C.G.kit C.G.kitb v t = some k) : ∃ tv, (∀ {x : Va} {u : V}, Rel C.W hid η st H → Rep C.W (Tb hid η st) η H x u → rd st x = v → TyX C.W.K H u tv) ∧ PySem.W.kitOne C.W.K tv (tyV' C.W t) = some k ∧
    tv = tvOf C.W v := by
  have kb := kit_base C.W.K
  rw [List.all_eq_true] at kb
  have base : ∀ {v : Va} {t : Ty} {k : Bool}, isBase v = true → (∀ D, t ≠ .own D) → (match t, v with
      | .int, .int _ | .int, .bl _ | .bool, .bl _ | .str, .str _ | .tuple, .tup _ | .list, .lst _ | .list, .lck _ => true
      | _, _ => false) = k → PySem.W.kitOne C.W.K (.type (tyN v)) (tyV' C.W t) = some k := fun {v t k} hb ht hk => by
    have q := kb _ (tyN_mem v)
    rw [List.all_eq_true] at q
    cases t with
    | own D => exact absurd rfl (ht D)
    | int => have := of_decide_eq_true (q "int" (by decide)); show PySem.W.kitOne C.W.K _ (.type "int") = _; rw [this, ← hk]; cases v <;> first | rfl | cases hb
    | bool => have := of_decide_eq_true (q "bool" (by decide)); show PySem.W.kitOne C.W.K _ (.type "bool") = _; rw [this, ← hk]; cases v <;> first | rfl | cases hb
    | str => have := of_decide_eq_true (q "str" (by decide)); show PySem.W.kitOne C.W.K _ (.type "str") = _; rw [this, ← hk]; cases v <;> first | rfl | cases hb
    | tuple => have := of_decide_eq_true (q "tuple" (by decide)); show PySem.W.kitOne C.W.K _ (.type "tuple") = _; rw [this, ← hk]; cases v <;> first | rfl | cases hb
    | list => have := of_decide_eq_true (q "list" (by decide)); show PySem.W.kitOne C.W.K _ (.type "list") = _; rw [this, ← hk]; cases v <;> first | rfl | cases hb
  have insT : ∀ {t : Ty} {D : String}, (∀ D, t ≠ .own D) → C.G.kitb.contains D = true → PySem.W.kitOne C.W.K (.ref (C.W.adr D)) (tyV' C.W t) = some false := fun {t D} ht hc => by
    have q := (ok.2 D hc).2
    unfold kitE at q
    rw [List.all_eq_true] at q
    have q' : ∀ n ∈ bases, PySem.W.kitOne C.W.K (.ref (C.W.adr D)) (.type n) = some false := fun n hn => by
      have := q n hn
      rw [Bool.and_eq_true] at this
      exact of_decide_eq_true this.2
    cases t with
    | own D => exact absurd rfl (ht D)
    | int => exact q' "int" (by decide)
    | bool => exact q' "bool" (by decide)
    | str => exact q' "str" (by decide)
    | tuple => exact q' "tuple" (by decide)
    | list => exact q' "list" (by decide)
  by_cases hv : ∃ D fs, v = .ins D fs
  · obtain ⟨D, fs, rfl⟩ := hv
    cases t with
    | own E =>
      simp only [isTy] at h
      split at h
      · rename_i hc
        cases h
        obtain ⟨k1, k2⟩ := ok.1 D E hc
        exact ⟨_, fun rel ru e => tyx_ins rel ru e k1, k2, rfl⟩
      · cases h
    | _ =>
      simp only [isTy] at h
      split at h
      · rename_i hc
        cases h
        exact ⟨_, fun rel ru e => tyx_ins rel ru e (ok.2 D hc).1, insT (fun _ => nofun) hc, rfl⟩
      · cases h
  · have hm : tvOf C.W v = .type (tyN v) := by
      cases v <;> first | rfl | exact absurd ⟨_, _, rfl⟩ hv
    cases t with
    | own E =>
      have h' : (if isBase v && C.G.kitb.contains E then some false else none) = some k := by
        cases v <;> first | exact h | exact absurd ⟨_, _, rfl⟩ hv
      split at h'
      · rename_i hc
        rw [Bool.and_eq_true] at hc
        cases h'
        refine ⟨_, fun {x u} rel ru e => by have t := tyx_base rel ru (by rw [e]; exact hc.1); rw [e] at t; exact t, ?_, hm.symm⟩
        have q := (ok.2 E hc.2).2
        unfold kitE at q
        rw [List.all_eq_true] at q
        have := q _ (tyN_mem v)
        rw [Bool.and_eq_true] at this
        exact of_decide_eq_true this.1
      · cases h'
    | _ =>
      simp only [isTy] at h
      split at h
      · exact absurd ⟨_, _, rfl⟩ hv
      · split at h
        · rename_i hb
          cases h
          exact ⟨_, fun {x u} rel ru e => by have t := tyx_base rel ru (by rw [e]; exact hb); rw [e] at t; exact t, base hb (fun _ => nofun) rfl, hm.symm⟩
        · cases h
theorem kit_any (ok : KitOk C) {v : Va} : ∀ {ts : List Ty} {k : Bool} {tv : Value}, tv = tvOf C.W v → isTys C.G.kit C.G.kitb v ts = some k → PySem.W.kitAny C.W.K tv (ts.map (tyV' C.W)) = some k
  | [], k, tv, _, h => by cases h; rfl
  | t :: ts, k, tv, e, h => by
    simp only [isTys] at h
    show (match PySem.W.kitOne C.W.K tv (tyV' C.W t) with | some true => some true | some false => PySem.W.kitAny C.W.K tv (ts.map (tyV' C.W)) | none => none) = some k
    split at h
    · rename_i e1
      cases h
      obtain ⟨tv', _, h2, h3⟩ := kit_one (hid := fun _ => False) (η := []) (st := []) (H := fun _ => none) ok e1
      rw [e, ← h3, h2]
    · rename_i e1
      obtain ⟨tv', _, h2, h3⟩ := kit_one (hid := fun _ => False) (η := []) (st := []) (H := fun _ => none) ok e1
      have q := kit_any ok e h
      rw [e, ← h3] at q ⊢
      rw [h2]
      exact q
    · cases h
theorem ty_any (ok : KitOk C) {x : Va} {u : V} {ts : List Ty} {k : Bool} (rel : Rel C.W hid η st H) (ru : Rep C.W (Tb hid η st) η H x u) (h0 : ts ≠ []) (h : isTys C.G.kit C.G.kitb (rd st x) ts = some k) : TyX C.W.K H u (tvOf C.W (rd st x)) := by
  cases ts with
  | nil => exact absurd rfl h0
  | cons t ts =>
    simp only [isTys] at h
    have : ∃ k', isTy C.G.kit C.G.kitb (rd st x) t = some k' := by
      split at h <;> first | exact ⟨_, by assumption⟩ | cases h
    obtain ⟨k', e⟩ := this
    obtain ⟨tv, h1, _, h3⟩ := kit_one (hid := hid) (η := η) (st := st) (H := H) ok e
    rw [← h3]
    exact h1 rel ru rfl
/-- an expression that stands for a class -/
abbrev PCl (X : Cx) (W : Wl) (e : Expr) (t : Ty) : Prop := PE X e (tC (tyW W t)) ∧ nst e = true
theorem se_isin1 {c : Expr} {t : Ty} (hK : X.K = C.W.K) (ok : KitOk C) (hg : Gl X "isinstance") (hm : X.mg "isinstance" = none) (ha : PE X a (tE C ia)) (na : nst a = true) (hc : PCl X C.W c t) : PE X (.Call (.Name "isinstance" p2) [a, c] [] pos) (tE C (.isin ia [t])) := by
  refine pe_weak (pe_callB call_isi hg hm (by rfl) (pa_cons ha (pa_cons hc.1 pa_nil (starEach_cons hc.2)) (starEach_cons na)) (by decide) (by decide) (starEach_cons na) (starEach_plain (by simp [hc.2]))) fun σ H Q h => ?_
  obtain ⟨hid, η, st, ρ, rel, env, h⟩ := h
  rw [evE] at h
  refine tE1 rel env h fun x η1 st1 H1 r1 g1 e1 u ru q => ?_
  obtain ⟨z, ez, q⟩ := Res.ofO q
  obtain ⟨k, ek, rfl⟩ := Option.map_eq_some_iff.mp ez
  have tx := ty_any ok r1 ru (by simp) ek
  have ka := kit_any ok rfl ek
  have ko : PySem.W.kitOne C.W.K (tvOf C.W (rd st1 x)) (tyV' C.W t) = some k := by
    have ka : (match PySem.W.kitOne C.W.K (tvOf C.W (rd st1 x)) (tyV' C.W t) with | some true => some true | some false => some false | none => none) = some k := ka
    split at ka
    · rename_i e; rw [e]; exact ka
    · rename_i e; rw [e]; exact ka
    · cases ka
  exact ⟨u, _, _, _, k, rfl, tyW_cls C.W t, by rw [hK]; exact tx, by rw [hK]; exact ko, q η1 H1 r1 Gr.refl _ (by simp [Rep])⟩
/-- classes in a row -/
inductive PCls (X : Cx) (W : Wl) : List Expr → List Ty → Prop where
  | nil : PCls X W [] []
  | cons {e : Expr} {t : Ty} {es ts} (h : PCl X W e t) (r : PCls X W es ts) : PCls X W (e :: es) (t :: ts)
def tCls (W : Wl) : List Ty → TA
  | [] => tNil
  | t :: ts => tCons (tC (tyW W t)) (tCls W ts)
theorem PCls.pa {W : Wl} {es : List Expr} {ts : List Ty} (h : PCls X W es ts) : PA X es (tCls W ts) := by
  induction h with
  | nil => exact pa_nil
  | cons h r ih => exact pa_cons h.1 ih (starEach_cons h.2)
theorem tCls_red {W : Wl} : ∀ {ts : List Ty} {Q : List V → Hp → Prop}, Q (ts.map (tyW W)) H → tCls W ts σ H Q
  | [], _, h => h
  | t :: ts, Q, h => tCls_red (ts := ts) (Q := fun xs H2 => Q (tyW W t :: xs) H2) h
theorem paired_cls (W : Wl) : ∀ ts : List Ty, Paired ClsV (ts.map (tyW W)) (ts.map (tyV' W))
  | [] => .nil
  | t :: ts => .cons (tyW_cls W t) (paired_cls W ts)
theorem se_isinT {cs : List Expr} {ts : List Ty} {j : Nat} (hK : X.K = C.W.K) (ok : KitOk C) (hg : Gl X "isinstance") (hm : X.mg "isinstance" = none) (ha : PE X a (tE C ia)) (na : nst a = true) (hc : PCls X C.W cs ts) (h0 : ts ≠ []) (hn : ts.length ≤ 1000) :
    PE X (.Call (.Name "isinstance" p2) [a, .Tuple cs j p3] [] pos) (tE C (.isin ia ts)) := by
  refine pe_weak (pe_callB call_isiT hg hm (by rfl) (pa_cons ha (pa_cons (pe_tup hc.pa) pa_nil) (starEach_cons na)) (by decide) (by decide) (starEach_cons na) rfl) fun σ H Q h => ?_
  obtain ⟨hid, η, st, ρ, rel, env, h⟩ := h
  rw [evE] at h
  refine tE1 rel env h fun x η1 st1 H1 r1 g1 e1 u ru q => ?_
  obtain ⟨z, ez, q⟩ := Res.ofO q
  obtain ⟨k, ek, rfl⟩ := Option.map_eq_some_iff.mp ez
  refine tCls_red (W := C.W) (ts := ts) ⟨by rw [List.length_map]; exact small_line hn, fun p hp => ?_⟩
  have r2 := r1.laid (o := .tup (ts.map (tyW C.W))) hp
  have g2 : Gr η1 st1 H1 η1 st1 (upd H1 p (.tup (ts.map (tyW C.W)))) := Gr.laid hp
  exact ⟨u, p, _, _, _, k, rfl, upd_same, paired_cls C.W ts, by rw [hK]; exact ty_any ok r2 (ru.gr g2) h0 ek, by rw [hK]; exact kit_any ok rfl ek, q η1 _ r2 g2 _ (by simp [Rep])⟩
/-! ### built-ins on values -/
theorem readI_ok {s : List Nat} {n : Int} (h : readI s = some n) : PySem.intText? (cS s) = some n ∧ (cS s).length ≤ 640 := by
  unfold readI at h
  split at h
  · rename_i hl; exact ⟨h, by rw [cS_len]; exact hl⟩
  · cases h

/-- what a built-in's rule is to give -/
def BiR (C : Cfg) (b : Bi) (r : List V → Hp → VK → Prop) : Prop := ∀ (hid : Addr → Prop) (η : List Addr) (st : Sto) (H : Hp) (vs : List Va) (us : List V) (z : Va) (Q : VK), Rel C.W hid η st H → Reps C.W (Tb hid η st) η H vs us →
  biop b (vs.map (rd st)) = some z → (∀ η' H', Rel C.W hid η' st H' → Gr η st H η' st H' → ∀ u, Rep C.W (Tb hid η' st) η' H' z u → Q u H') → r us H Q
theorem se_biB {b : Bi} {id : String} {x : Str} {e : Expr} {es : List Expr} {ies : List E} {r : List V → Hp → VK → Prop} (hc : CallR X (.builtin id) r) (br : BiR C b r) (hg : Gl X x) (hm : X.mg x = none) (hv : bootBuiltins x = some (.builtin id)) (ha : PA X (e :: es) (tEs C ies)) (hn : (e :: es).all nst = true)
    (hx : x ≠ "__name__") (hdb : (x == ("__debug__" : Str)) = false) : PE X (.Call (.Name x p2) (e :: es) [] pos) (tE C (.bi b ies)) := by
  rw [List.all_cons, Bool.and_eq_true] at hn
  refine pe_weak (pe_callB hc hg hm hv ha hx hdb (starEach_cons hn.1) (starEach_plain hn.2)) fun σ H Q h => ?_
  obtain ⟨hid, η, st, ρ, rel, env, h⟩ := h
  rw [evE] at h
  refine ⟨hid, η, st, ρ, rel, env, h.bind.mono fun vs η1 st1 H1 r1 g1 q us rus => ?_⟩
  obtain ⟨z, ez, q⟩ := Res.ofO q
  exact br hid η1 st1 H1 vs us z Q r1 rus ez q
theorem se_biT {b : Bi} {T : String} {x : Str} {e : Expr} {es : List Expr} {ies : List E} {r : List V → Hp → VK → Prop} (hc : CallR X (.type T) r) (br : BiR C b r) (hg : Gl X x) (hm : X.mg x = none) (hv : bootBuiltins x = some (.type T)) (ha : PA X (e :: es) (tEs C ies)) (hn : (e :: es).all nst = true)
    (hx : x ≠ "__name__") (hdb : (x == ("__debug__" : Str)) = false) : PE X (.Call (.Name x p2) (e :: es) [] pos) (tE C (.bi b ies)) := by
  rw [List.all_cons, Bool.and_eq_true] at hn
  refine pe_weak (pe_callTy hc hg hm hv ha hx hdb (starEach_cons hn.1) (starEach_plain hn.2)) fun σ H Q h => ?_
  obtain ⟨hid, η, st, ρ, rel, env, h⟩ := h
  rw [evE] at h
  refine ⟨hid, η, st, ρ, rel, env, h.bind.mono fun vs η1 st1 H1 r1 g1 q us rus => ?_⟩
  obtain ⟨z, ez, q⟩ := Res.ofO q
  exact br hid η1 st1 H1 vs us z Q r1 rus ez q
theorem map1 {st : Sto} {vs : List Va} {c : Va} (h : vs.map (rd st) = [c]) : ∃ v, vs = [v] ∧ rd st v = c := by
  cases vs with
  | nil => cases h
  | cons v vs => cases vs with
    | nil => simp at h; exact ⟨v, rfl, h⟩
    | cons => simp at h
theorem map2 {st : Sto} {vs : List Va} {c d : Va} (h : vs.map (rd st) = [c, d]) : ∃ v w, vs = [v, w] ∧ rd st v = c ∧ rd st w = d := by
  cases vs with
  | nil => cases h
  | cons v vs => cases vs with
    | nil => simp at h
    | cons w vs => cases vs with
      | nil => simp at h; exact ⟨v, w, rfl, h.1, h.2⟩
      | cons => simp at h
theorem Reps.one {W : Wl} {T : Addr → Prop} {η : List Addr} {H : Hp} {v : Va} {us : List V} (h : Reps W T η H [v] us) : ∃ u, us = [u] ∧ Rep W T η H v u := by
  simp only [Reps] at h
  obtain ⟨u, us', rfl, h1, rfl⟩ := h
  exact ⟨u, rfl, h1⟩
theorem Reps.two {W : Wl} {T : Addr → Prop} {η : List Addr} {H : Hp} {v w : Va} {us : List V} (h : Reps W T η H [v, w] us) : ∃ u u2, us = [u, u2] ∧ Rep W T η H v u ∧ Rep W T η H w u2 := by
  simp only [Reps] at h
  obtain ⟨u, us', rfl, h1, u2, us2, rfl, h2, rfl⟩ := h
  exact ⟨u, u2, rfl, h1, h2⟩
def rLen2 (K : PySem.W.Frag) : List V → Hp → VK → Prop := fun xs H Q => (∃ x n, xs = [x] ∧ LenV K x H n ∧ Q (.int n) H) ∨ ∃ a kvs, xs = [V.ref a] ∧ H a = some (.dK kvs) ∧ Q (.int kvs.length) H
theorem call_len2 : CallR X (.builtin "len") (rLen2 X.K) := by
  intro pins s σ H xs us Q I r h
  rcases h with h | h
  · exact call_len pins s σ H xs us Q I r h
  · exact call_lenD pins s σ H xs us Q I r h
/-- of one value, of two -/
theorem br_one {b : Bi} {r : List V → Hp → VK → Prop} (h2 : ∀ v w, bi2 b v w = none) (h : ∀ (hid : Addr → Prop) (η : List Addr) (st : Sto) (H : Hp) (v : Va) (u : V) (z : Va) (Q : VK), Rel C.W hid η st H → Rep C.W (Tb hid η st) η H v u → bi1 b (rd st v) = some z →
    (∀ η' H', Rel C.W hid η' st H' → Gr η st H η' st H' → ∀ u, Rep C.W (Tb hid η' st) η' H' z u → Q u H') → r [u] H Q) : BiR C b r := by
  intro hid η st H vs us z Q rel rs e q
  cases vs with
  | nil => cases e
  | cons v vs =>
    cases vs with
    | nil =>
      obtain ⟨u, rfl, ru⟩ := rs.one
      exact h hid η st H v u z Q rel ru e q
    | cons w vs =>
      cases vs with
      | nil => rw [show biop b ([v, w].map (rd st)) = bi2 b (rd st v) (rd st w) from rfl, h2] at e; cases e
      | cons => cases e
theorem br_two {b : Bi} {r : List V → Hp → VK → Prop} (h1 : ∀ v, bi1 b v = none) (h : ∀ (hid : Addr → Prop) (η : List Addr) (st : Sto) (H : Hp) (v v2 : Va) (u u2 : V) (z : Va) (Q : VK), Rel C.W hid η st H → Rep C.W (Tb hid η st) η H v u → Rep C.W (Tb hid η st) η H v2 u2 → bi2 b (rd st v) (rd st v2) = some z →
    (∀ η' H', Rel C.W hid η' st H' → Gr η st H η' st H' → ∀ u, Rep C.W (Tb hid η' st) η' H' z u → Q u H') → r [u, u2] H Q) : BiR C b r := by
  intro hid η st H vs us z Q rel rs e q
  cases vs with
  | nil => cases e
  | cons v vs =>
    cases vs with
    | nil => rw [show biop b ([v].map (rd st)) = bi1 b (rd st v) from rfl, h1] at e; cases e
    | cons w vs =>
      cases vs with
      | nil =>
        obtain ⟨u, u2, rfl, ru, ru2⟩ := rs.two
        exact h hid η st H v w u u2 z Q rel ru ru2 e q
      | cons => cases e
theorem br_len (hK : X.K = C.W.K) : BiR C .len (rLen2 X.K) := by
  refine br_one (fun _ _ => rfl) fun hid η st H v u z Q rel ru e q => ?_
  replace e : lenV (rd st v) = some z := e
  unfold lenV at e
  split at e
  · rename_i x hv
    cases e
    obtain ⟨a, us, rfl, h1, h2⟩ := rd_lst rel hv ru
    exact .inl ⟨_, us.length, rfl, .inl ⟨us, SqL.of h1, rfl⟩, q η H rel Gr.refl _ (by simp [Rep, h2.length])⟩
  · rename_i x hv
    cases e
    obtain ⟨_, a, us, rfl, h1, h2⟩ := rd_tup hv ru
    exact .inl ⟨_, us.length, rfl, .inr ⟨us, by rw [hK]; exact h1.sq, rfl⟩, q η H rel Gr.refl _ (by simp [Rep, h2.length])⟩
  · rename_i x hv
    obtain ⟨_, rfl⟩ := rd_str hv ru
    split at e
    · rename_i hs
      cases e
      exact .inl ⟨_, x.length, rfl, ⟨by rw [cS_len]; exact Lm_line hs, by rw [cS_len]⟩, q η H rel Gr.refl _ (by simp [Rep])⟩
    · cases e
  · rename_i x hv
    cases e
    obtain ⟨a, us, rfl, h1, h2⟩ := rd_dct rel hv ru
    exact .inr ⟨a, us, rfl, h1, q η H rel Gr.refl _ (by simp [Rep, h2.length])⟩
  · cases e
/-- int of an int, of a bool -/
theorem br_int : BiR C .int (fun xs H Q => ((∃ i, xs = [.int i] ∧ Q (.int i) H) ∨ ∃ k, xs = [.bl k] ∧ Q (.int (if k then 1 else 0)) H) ∨ ∃ a n, xs = [.str a] ∧ PySem.intText? a = some n ∧ a.length ≤ 640 ∧ Q (.int n) H) := by
  refine br_one (fun _ _ => rfl) fun hid η st H v u z Q rel ru e q => ?_
  replace e : intV (rd st v) = some z := e
  unfold intV at e
  split at e
  · rename_i i hv
    cases e
    obtain ⟨_, rfl⟩ := rd_int hv ru
    exact .inl (.inl ⟨i, rfl, q η H rel Gr.refl _ (by simp [Rep])⟩)
  · rename_i i hv
    cases e
    obtain ⟨_, rfl⟩ := rd_bl hv ru
    exact .inl (.inr ⟨i, rfl, q η H rel Gr.refl _ (by simp [Rep, b2i])⟩)
  · rename_i s hv
    obtain ⟨_, rfl⟩ := rd_str hv ru
    obtain ⟨n, hn, rfl⟩ := Option.map_eq_some_iff.mp e
    obtain ⟨h1, h2⟩ := readI_ok hn
    exact .inr ⟨cS s, n, rfl, h1, h2, q η H rel Gr.refl _ (by simp [Rep])⟩
  · cases e
theorem br_tuple (hK : X.K = C.W.K) : BiR C .tuple (fun xs H Q => ∃ p ys, xs = [.ref p] ∧ ((SqL X.K H p ys ∧ ∀ l, H l = none → Q (.ref l) (upd H l (.tup ys))) ∨ (SqT X.K H p ys ∧ Q (.ref p) H))) := by
  refine br_one (fun _ _ => rfl) fun hid η st H v u z Q rel ru e q => ?_
  replace e : tupV (rd st v) = some z := e
  unfold tupV at e
  obtain ⟨x, hx, rfl⟩ := Option.map_eq_some_iff.mp e
  cases hv : rd st v with
  | lst vs =>
    rw [hv] at hx; cases hx
    obtain ⟨a, us, rfl, h1, h2⟩ := rd_lst rel hv ru
    exact ⟨a, us, rfl, .inl ⟨SqL.of h1, new_tup rel h2 q⟩⟩
  | lck vs =>
    rw [hv] at hx; cases hx
    obtain ⟨a, us, rfl, h1, h2⟩ := rd_lck hv ru
    exact ⟨a, us, rfl, .inl ⟨by rw [hK]; exact h1.sq, new_tup rel h2 q⟩⟩
  | tup vs =>
    rw [hv] at hx; cases hx
    obtain ⟨ev, a, us, rfl, h1, h2⟩ := rd_tup hv ru
    rw [ev] at ru
    exact ⟨a, us, rfl, .inr ⟨by rw [hK]; exact h1.sq, q η H rel Gr.refl _ ru⟩⟩
  | _ => rw [hv] at hx; cases hx
theorem br_list (hK : X.K = C.W.K) : BiR C .list (fun xs H Q => ∃ p ys, xs = [.ref p] ∧ (SqL X.K H p ys ∨ SqT X.K H p ys) ∧ ∀ l, H l = none → Q (.ref l) (upd H l (.lst ys))) := by
  refine br_one (fun _ _ => rfl) fun hid η st H v u z Q rel ru e q => ?_
  replace e : lstV (rd st v) = some z := e
  unfold lstV at e
  obtain ⟨x, hx, rfl⟩ := Option.map_eq_some_iff.mp e
  obtain ⟨a, us, rfl, h1, h2⟩ := rd_row rel hx ru
  exact ⟨a, us, rfl, by rw [hK]; exact h1, new_lst rel h2 q⟩
/-- list(..), to be changed -/
theorem se_mkList {e : Expr} {ie : E} (hK : X.K = C.W.K) (hg : Gl X "list") (hm : X.mg "list" = none) (ha : PE X e (tE C ie)) (hn : nst e = true) : PE X (.Call (.Name "list" p2) [e] [] pos) (tE C (.mk .list ie)) := by
  refine pe_weak (pe_callTy call_list_of hg hm (by rfl) (pa_cons ha pa_nil (starEach_cons hn)) (by decide) (by decide) (starEach_cons hn) rfl) fun σ H Q h => ?_
  obtain ⟨hid, η, st, ρ, rel, env, h⟩ := h
  rw [evE] at h
  refine tE1 rel env h fun x η1 st1 H1 r1 g1 e1 u ru q => ?_
  obtain ⟨z, ez, q⟩ := Res.ofO q.bind
  replace ez : lstV (rd st1 x) = some z := ez
  unfold lstV at ez
  obtain ⟨y, hy, rfl⟩ := Option.map_eq_some_iff.mp ez
  obtain ⟨a, us, rfl, h1, h2⟩ := rd_row r1 hy ru
  exact ⟨a, us, rfl, by rw [hK]; exact h1, fr_lst r1 h2 (q η1 H1 r1 Gr.refl)⟩
end
end M
end
section
set_option Elab.async false
set_option linter.all false
set_option maxRecDepth 10000
set_option autoImplicit false
/-! Sem17: methods of lists. -/
namespace M
open PySem PySem.Spec PyProof.Rows L2
section
variable {C : Cfg} {α β : Type} {hid : Addr → Prop} {η : List Addr} {st : Sto} {H : Hp} {σ : L2.St} {ρ : Sl}
variable {X : Cx} {a b : Expr} {ia ib : E} {pos p2 p3 apos : Pos}
theorem few1 {e : Expr} {es : List Expr} {env : Env} (h : (e :: es).all nst = true) (hl : (e :: es).length < 20) :
    ((backTo pos (starEach (e :: es) env)).all (fun x => !x.1) && (backToKw pos (keywordEach [] env)).all (fun x => x.1.isSome) && decide ((e :: es).length + ([] : List Keyword).length + (if ([] : List Keyword).isEmpty then 0 else 1) < 30)) = true := by
  have h1 : (backTo pos (starEach (e :: es) env)).all (fun x => !x.1) = true := by
    have := starEach_plain (pos := pos) (env := env) h
    rw [List.all_eq_true]
    rw [List.any_eq_false] at this
    intro x hx
    have := this x hx
    simpa using this
  rw [h1]
  simp only [Bool.true_and, Bool.and_eq_true, decide_eq_true_eq]
  exact ⟨rfl, by simp only [List.length_nil, List.isEmpty_nil, if_true]; omega⟩
theorem rd_lst_ty {x : Va} {u : V} {vs : List Va} (rel : Rel C.W hid η st H) (e : rd st x = .lst vs) (ru : Rep C.W (Tb hid η st) η H x u) {K : PySem.W.Frag} : tyV K "list" u H := by
  obtain ⟨a, us, rfl, h1, _⟩ := rd_lst rel e ru
  exact .inl ⟨rfl, us, SqL.of h1⟩
/-- an object of the store is a list -/
theorem ref_lst {n : Nat} {vs : List Va} (e : rd st (.ref n) = .lst vs) : st[n]? = some (.lst vs) := by
  rcases rd_cases (.ref n) st with ⟨m, o, em, e1, a, q⟩ | q
  · cases em
    rw [e] at q
    cases o <;> first | (cases q; exact e1) | cases q
  · rw [e] at q; cases q
theorem ref_dct {n : Nat} {vs : List (Va × Va)} (e : rd st (.ref n) = .dct vs) : st[n]? = some (.dct vs) := by
  rcases rd_cases (.ref n) st with ⟨m, o, em, e1, a, q⟩ | q
  · cases em
    rw [e] at q
    cases o <;> first | (cases q; exact e1) | cases q
  · rw [e] at q; cases q
theorem ref_ins {n : Nat} {D : String} {vs : List (String × Va)} (e : rd st (.ref n) = .ins D vs) : st[n]? = some (.ins D vs) := by
  rcases rd_cases (.ref n) st with ⟨m, o, em, e1, a, q⟩ | q
  · cases em
    rw [e] at q
    cases o <;> first | (cases q; exact e1) | cases q
  · rw [e] at q; cases q
theorem mt_isLst {c : Va} (h : mtOk .append c = true) : ∃ vs, c = .lst vs := by
  cases c <;> first | exact ⟨_, rfl⟩ | cases h
/-- a list of the store gets a new content -/
theorem put_lst {n : Nat} {vs vs' : List Va} {us' : List V} {a : Addr} (rel : Rel C.W hid η st H) (e : st[n]? = some (.lst vs)) (ea : η[n]? = some a) (r : Reps C.W (Tb hid η st) η H vs' us') :
    Rel C.W hid η (st.set n (.lst vs')) (upd H a (.lst us')) ∧ Gr η st H η (st.set n (.lst vs')) (upd H a (.lst us')) :=
  rel.write e ea rfl rfl ⟨us', upd_same, r.upd_lv ⟨n, _, e, rfl, ea⟩⟩
theorem se_append (ha : PE X a (tE C ia)) (hb : PE X b (tE C ib)) (na : nsup a = true) (nb : nst b = true) (hl : (apos.endLine == pos.line) = true) : PE X (.Call (.Attribute a "append" apos) [b] [] pos) (tE C (.mt .append ia [ib])) := by
  refine pe_weak (pe_bm (T := "list") PySem.F.plainAttrs_list PySem.F.slot_list_append PySem.F.type_list_append mt_append ha (pa_cons hb pa_nil (starEach_cons nb)) (attrBase na) (few1 (by simp [nb]) (by simp)) hl (starEach_cons nb) rfl) fun σ H Q h => ?_
  obtain ⟨hid, η, st, ρ, rel, env, h⟩ := h
  rw [evE] at h
  refine tE1 rel env h fun x η1 st1 H1 r1 g1 e1 u ru q => ?_
  split at q
  · rename_i hm
    obtain ⟨vs0, hv0⟩ := mt_isLst hm
    refine ⟨rd_lst_ty r1 hv0 ru, ?_⟩
    rw [evEs] at q
    rw [R.bind_assoc] at q
    refine tE1 r1 e1 q fun y η2 st2 H2 r2 g2 e2 w rw' q2 => ?_
    rw [evEs] at q2
    simp only [R.bind_ok] at q2
    replace q2 : Res C hid η2 st2 H2 σ (appV x (rd st2 x) [y] st2) _ := q2
    unfold appV at q2
    cases x with
    | ref n =>
      cases hc : rd st2 (.ref n) with
      | lst xs =>
        rw [hc] at q2
        simp only at q2
        split at q2
        · rename_i hsm
          have e3 := ref_lst hc
          have ru := ru.gr g2
          simp only [Rep] at ru
          obtain ⟨p, ep, rfl⟩ := ru
          obtain ⟨us, h1, h2⟩ := r2.obs n _ p e3 ep
          have hlen : xs.length < sizeLine := by
            have h : xs.length ≤ Lm := of_decide_eq_true hsm
            rw [sizeLine_eq]; unfold Lm at h; omega
          refine ⟨p, us, w, rfl, rfl, h1, by rw [← h2.length]; exact hlen, ?_⟩
          obtain ⟨r3, g3⟩ := put_lst r2 e3 ep (h2.append (ws := [y]) (xs := [w]) (by simp only [Reps]; exact ⟨w, [], rfl, rw', rfl⟩))
          exact q2 η2 _ r3 g3 _ (by simp [Rep])
        · exact q2.elim
      | _ => rw [hc] at q2; exact q2.elim
    | _ => exact q2.elim
  · exact q.elim
end
end M
end
section
set_option Elab.async false
set_option linter.all false
set_option maxRecDepth 10000
set_option autoImplicit false
/-! Sem18: repr of data. -/
namespace M
open PySem PySem.Spec PyProof.Rows L2
section
variable {X : Cx} {pins : List (Addr × Obj)} {σ : L2.St} {H : Hp} {s : Shared} {W : Wl} {T : Addr → Prop} {η : List Addr}
theorem not_sym (I : Inv X pins σ H s) (sy : symK X.K = true) {a : Addr} {o : Obj} (e : s.heap.get? a = some o) (hc : o.cls = .type "list") : a ≠ sysModules := by
  rintro rfl
  unfold symK at sy
  split at sy
  · rename_i o' e'
    have q := I.kIn _ _ e'
    rw [e] at q
    cases q
    rw [of_decide_eq_true sy] at hc
    exact absurd hc (by decide)
  · cases sy
theorem toDk_keys : ∀ kvs : List (Va × Va), (toDk kvs).map (·.1) = toDs (kvs.map (·.1))
  | [] => rfl
  | (k, v) :: r => by simp [toDk, toDs, toDk_keys r]
theorem toDk_vals : ∀ kvs : List (Va × Va), (toDk kvs).map (·.2) = toDs (kvs.map (·.2))
  | [] => rfl
  | (k, v) :: r => by simp [toDk, toDs, toDk_vals r]
theorem key_reads {P : Program} {w : World} {h : Heap} {k : Va} {c : Key} {kv : Value} (hk : keyV k = some c) (is : (mixKind P w).is c kv = true) : Reads h kv (toD k) [] := by
  cases k with
  | int i =>
    cases hk
    rcases keyIs_shape (show keyIs (.inl i) kv = true from is) with ⟨j, t, e, rfl⟩ | ⟨x, t, e, rfl⟩
    · cases e; exact .int _ _
    · cases e
  | str i =>
    cases hk
    rcases keyIs_shape (show keyIs (.inr (cS i)) kv = true from is) with ⟨j, t, e, rfl⟩ | ⟨x, t, e, rfl⟩
    · cases e
    · cases e; exact .str _ _
  | _ => cases hk
mutual
theorem Rep.reads (I : Inv X pins σ H s) (hK : X.K = W.K) (sy : symK X.K = true) : ∀ (n : Nat) (v : Va) (u : V) (x : Value), datR n v = true → Rep W T η H v u → RelV u x → ∃ as, Reads s.heap x (toD v) as ∧ sysModules ∉ as
  | _, .non, _, _, _, r, q => by simp only [Rep] at r; subst r; cases q; exact ⟨[], .none, by simp⟩
  | _, .bl _, _, _, _, r, q => by simp only [Rep] at r; subst r; cases q; exact ⟨[], .bool _, by simp⟩
  | _, .int _, _, _, _, r, q => by simp only [Rep] at r; subst r; obtain ⟨t, rfl⟩ := q; exact ⟨[], .int _ _, by simp⟩
  | _, .str _, _, _, _, r, q => by simp only [Rep] at r; subst r; obtain ⟨t, rfl⟩ := q; exact ⟨[], .str _ _, by simp⟩
  | n + 1, .tup vs, _, _, h, r, q => by
    simp only [Rep] at r; obtain ⟨a, us, rfl, f, r⟩ := r
    cases q
    simp only [datR] at h
    obtain ⟨its, rv, p, _⟩ := I.tuple (by rw [hK]; exact f.sq)
    obtain ⟨o, ho, hc, m, hd⟩ := p
    obtain ⟨as, ra, na⟩ := Reps.reads I hK sy n vs us its h r rv
    exact ⟨as, .tuple ho hc hd (by simpa using ra), na⟩
  | n + 1, .lst vs, _, _, h, r, q => by
    simp only [Rep] at r; obtain ⟨a, us, rfl, f, r⟩ := r
    cases q
    simp only [datR] at h
    obtain ⟨its, rv, p, _⟩ := I.list (SqL.of f.1)
    obtain ⟨o, ho, hc, m, hd⟩ := p.isList
    obtain ⟨as, ra, na⟩ := Reps.reads I hK sy n vs us its h r rv
    exact ⟨a :: as, .list ho hc hd (by simpa using ra), by simp only [List.mem_cons, not_or]; exact ⟨Ne.symm (not_sym I sy ho hc), na⟩⟩
  | n + 1, .dct kvs, _, _, h, r, q => by
    simp only [Rep] at r; obtain ⟨a, us, rfl, _, f, r⟩ := r
    cases q
    simp only [datR] at h
    obtain ⟨z, hd, vs, rel, o, es, ep, ho, hx, hdd, _, hp, _⟩ := dk_rd I.hok (.inl f)
    obtain ⟨h1, bs, h2, nb⟩ := RepK.reads I hK sy n kvs us vs es.toList h r rel hp
    refine ⟨a :: [] ++ bs, .dict ho hx.1 hdd (by rw [toDk_keys]; exact h1) (by rw [toDk_vals]; exact h2), ?_⟩
    simp only [List.cons_append, List.nil_append, List.mem_cons, not_or]
    exact ⟨fun z => (beq_eq_false_iff_ne.mp hd) z.symm, nb⟩
  | 0, .tup _, _, _, h, _, _ => by simp [datR] at h
  | 0, .lst _, _, _, h, _, _ => by simp [datR] at h
  | 0, .dct _, _, _, h, _, _ => by simp [datR] at h
  | n, .lck _, _, _, h, _, _ => by cases n <;> simp [datR] at h
  | n, .ins _ _, _, _, h, _, _ => by cases n <;> simp [datR] at h
  | n, .ref _, _, _, h, _, _ => by cases n <;> simp [datR] at h
  | n, .fn _, _, _, h, _, _ => by cases n <;> simp [datR] at h
  | n, .clo _ _, _, _, h, _, _ => by cases n <;> simp [datR] at h
  | n, .exc _ _, _, _, h, _, _ => by cases n <;> simp [datR] at h
theorem Reps.reads (I : Inv X pins σ H s) (hK : X.K = W.K) (sy : symK X.K = true) : ∀ (n : Nat) (vs : List Va) (us : List V) (xs : List Value), vs.all (datR n) = true → Reps W T η H vs us → Vals us xs → ∃ as, ReadsAll s.heap xs (toDs vs) as ∧ sysModules ∉ as
  | _, [], _, _, _, r, q => by simp only [Reps] at r; subst r; cases q; exact ⟨[], .nil, by simp⟩
  | n, v :: vs, _, _, h, r, q => by
    simp only [Reps] at r; obtain ⟨u, us, rfl, r1, r2⟩ := r
    rw [List.all_cons, Bool.and_eq_true] at h
    cases q with
    | cons q1 q2 =>
      obtain ⟨as, h1, n1⟩ := Rep.reads I hK sy n v u _ h.1 r1 q1
      obtain ⟨bs, h2, n2⟩ := Reps.reads I hK sy n vs us _ h.2 r2 q2
      exact ⟨as ++ bs, .cons h1 h2, by simp [n1, n2]⟩
theorem RepK.reads (I : Inv X pins σ H s) (hK : X.K = W.K) (sy : symK X.K = true) : ∀ (n : Nat) (kvs : List (Va × Va)) (us : List (Key × V)) (vs : List (Key × Value)) (es : List DictEntry), (kvs.all fun p => datR n p.1 && datR n p.2) = true → RepK W T η H kvs us → KV us vs → Pairs (mixKind X.prog X.w) es vs →
    ReadsAll s.heap (es.map (·.key)) (toDs (kvs.map (·.1))) [] ∧ ∃ bs, ReadsAll s.heap (es.map (·.val)) (toDs (kvs.map (·.2))) bs ∧ sysModules ∉ bs
  | _, [], _, _, _, _, r, q, p => by
    simp only [RepK] at r; subst r; cases q; cases p
    exact ⟨.nil, [], .nil, by simp⟩
  | n, (k, v) :: kvs, _, _, _, h, r, q, p => by
    simp only [RepK] at r; obtain ⟨c, u, us, rfl, hk, r1, r2⟩ := r
    rw [List.all_cons, Bool.and_eq_true, Bool.and_eq_true] at h
    cases q with
    | cons q1 q2 =>
      obtain ⟨e1, rv⟩ := q1
      cases p with
      | cons p1 p2 p3 =>
        obtain ⟨h1, bs, h2, n2⟩ := RepK.reads I hK sy n kvs us _ _ h.2 r2 q2 p3
        obtain ⟨as, h3, n3⟩ := Rep.reads I hK sy n v u _ h.1.2 r1 rv
        refine ⟨?_, as ++ bs, ?_, by simp [n2, n3]⟩
        · simp only [List.map_cons, toDs]
          exact ReadsAll.cons (as := []) (key_reads hk (by rw [← e1] at p1; exact p1)) h1
        · simp only [List.map_cons, toDs, p2]
          exact .cons h3 h2
end
mutual
theorem datR_show : ∀ (n : Nat) (v : Va), datR n v = true → (toD v).showable = true ∧ (toD v).depth ≤ n
  | _, .non, _ | _, .bl _, _ | _, .str _, _ => by simp [toD, PyData.showable, PyData.depth]
  | n, .int i, h => by cases n <;> simpa [toD, PyData.showable, PyData.depth, datR] using h
  | n + 1, .tup vs, h => by
    simp only [datR] at h
    obtain ⟨h1, h2⟩ := datR_shows n vs h
    exact ⟨by simpa [toD, PyData.showable] using h1, by simp only [toD, PyData.depth]; omega⟩
  | n + 1, .lst vs, h => by
    simp only [datR] at h
    obtain ⟨h1, h2⟩ := datR_shows n vs h
    exact ⟨by simpa [toD, PyData.showable] using h1, by simp only [toD, PyData.depth]; omega⟩
  | n + 1, .dct vs, h => by
    simp only [datR] at h
    obtain ⟨h1, h2⟩ := datR_showk n vs h
    exact ⟨by simpa [toD, PyData.showable] using h1, by simp only [toD, PyData.depth]; omega⟩
  | 0, .tup _, h => by simp [datR] at h
  | 0, .lst _, h => by simp [datR] at h
  | 0, .dct _, h => by simp [datR] at h
  | n, .lck _, h => by cases n <;> simp [datR] at h
  | n, .ins _ _, h => by cases n <;> simp [datR] at h
  | n, .ref _, h => by cases n <;> simp [datR] at h
  | n, .fn _, h => by cases n <;> simp [datR] at h
  | n, .clo _ _, h => by cases n <;> simp [datR] at h
  | n, .exc _ _, h => by cases n <;> simp [datR] at h
theorem datR_shows : ∀ (n : Nat) (vs : List Va), vs.all (datR n) = true → PyData.showableAll (toDs vs) = true ∧ PyData.depthAll (toDs vs) ≤ n
  | _, [], _ => by simp [toDs, PyData.showableAll, PyData.depthAll]
  | n, v :: vs, h => by
    rw [List.all_cons, Bool.and_eq_true] at h
    obtain ⟨h1, h2⟩ := datR_show n v h.1
    obtain ⟨h3, h4⟩ := datR_shows n vs h.2
    exact ⟨by simp [toDs, PyData.showableAll, h1, h3], by simp only [toDs, PyData.depthAll]; omega⟩
theorem datR_showk : ∀ (n : Nat) (vs : List (Va × Va)), (vs.all fun p => datR n p.1 && datR n p.2) = true → PyData.showableKv (toDk vs) = true ∧ PyData.depthKv (toDk vs) ≤ n
  | _, [], _ => by simp [toDk, PyData.showableKv, PyData.depthKv]
  | n, (k, v) :: vs, h => by
    rw [List.all_cons, Bool.and_eq_true, Bool.and_eq_true] at h
    obtain ⟨h1, h2⟩ := datR_show n k h.1.1
    obtain ⟨h5, h6⟩ := datR_show n v h.1.2
    obtain ⟨h3, h4⟩ := datR_showk n vs h.2
    exact ⟨by simp [toDk, PyData.showableKv, h1, h3, h5], by simp only [toDk, PyData.depthKv]; omega⟩
end
theorem CtR.reads (I : Inv X pins σ H s) (hK : X.K = W.K) (sy : symK X.K = true) {n : Nat} {v : Va} {u : V} {x : Value} (h : datR n v = true) (r : CtR W T η H v u) (q : RelV u x) : ∃ as, Reads s.heap x (toD v) as ∧ sysModules ∉ as := by
  cases v with
  | lst vs =>
    obtain ⟨a, us, rfl, f, r⟩ := r
    cases q
    cases n with
    | zero => simp [datR] at h
    | succ n =>
      simp only [datR] at h
      obtain ⟨its, rv, p, _⟩ := I.list (SqL.of f)
      obtain ⟨o, ho, hc, m, hd⟩ := p.isList
      obtain ⟨as, ra, na⟩ := Reps.reads I hK sy n vs us its h r rv
      exact ⟨a :: as, .list ho hc hd (by simpa using ra), by simp only [List.mem_cons, not_or]; exact ⟨Ne.symm (not_sym I sy ho hc), na⟩⟩
  | dct kvs =>
    obtain ⟨a, us, rfl, f, r⟩ := r
    cases q
    cases n with
    | zero => simp [datR] at h
    | succ n =>
      simp only [datR] at h
      obtain ⟨z, hd, vs, rel, o, es, ep, ho, hx, hdd, _, hp, _⟩ := dk_rd I.hok (.inl f)
      obtain ⟨h1, bs, h2, nb⟩ := RepK.reads I hK sy n kvs us vs es.toList h r rel hp
      refine ⟨a :: [] ++ bs, .dict ho hx.1 hdd (by rw [toDk_keys]; exact h1) (by rw [toDk_vals]; exact h2), ?_⟩
      simp only [List.cons_append, List.nil_append, List.mem_cons, not_or]
      exact ⟨fun z => (beq_eq_false_iff_ne.mp hd) z.symm, nb⟩
  | ins _ _ => cases n <;> simp [datR] at h
  | _ => exact Rep.reads (T := T) (η := η) I hK sy n _ u x h r q
def rRepr (W : Wl) : List V → Hp → VK → Prop := fun xs H Q => ∃ T η c u, xs = [u] ∧ CtR W T η H c u ∧ datR Dp c = true ∧ (toD c).shown.length ≤ sizeLine ∧ Q (.str (toD c).shown) H
theorem call_repr (hK : X.K = W.K) (sy : symK X.K = true) (hg : X.A.guards = some []) (hu : X.A.units + 64 < cLine) : CallR X (.builtin "repr") (rRepr W) := by
  intro pins s σ H xs us Q I r h
  obtain ⟨T, η, c, u, rfl, hc, hd, hz, q⟩ := h
  obtain ⟨x, rfl, rx⟩ := vals1 r
  obtain ⟨as, rd, na⟩ := hc.reads I hK sy hd rx
  obtain ⟨h1, h2⟩ := datR_show Dp c hd
  have fin : ∀ (h' : Heap) (tk tk2 : Tok), (∀ b o, s.heap.get? b = some o → h'.get? b = some o) → EP X pins σ Q (.str (toD c).shown tk2) { s with heap := h', toks := tk } := fun h' tk tk2 hk => ⟨.str _, H, I.kept (t' := tk) hk, ⟨_, rfl⟩, q⟩
  generalize toD c = d at rd h1 h2 hz q fin
  cases x with
  | none => cases rd; exact PySem.P.repr_of_none (fin s.heap _ _ fun _ _ e => e)
  | bool b => cases rd; exact PySem.P.repr_of_bool (fin s.heap _ _ fun _ _ e => e)
  | int i t =>
    cases rd
    exact PySem.P.repr_of_int (by simpa [PyData.showable] using h1) (fin s.heap _ _ fun _ _ e => e)
  | str x t =>
    cases rd
    exact PySem.P.repr_of_str (fin s.heap _ _ fun _ _ e => e) hz
  | ref a => exact repr_of_reads' rd h1 (fun _ => na) hg (by unfold Dp at h2; omega) (fun _ _ e => e) (fun h' u tk hk => fin h' tk u hk) hz
  | _ => cases rd
theorem textFrom_le : ∀ (ts : List Str) (k : Nat) (acc : Str), (textFrom k acc ts).length ≤ acc.length + piled ts
  | [], k, acc => Nat.le_add_right _ _
  | t :: r, k, acc => by
    have ih := textFrom_le r (k + 1) (acc ++ (if k > 0 then ", " else "" : String) ++ t)
    have e : (acc ++ (if k > 0 then ", " else "" : String) ++ t).length ≤ acc.length + 2 + t.length := by
      rw [strLen_append, strLen_append]
      have : (((if k > 0 then ", " else "" : String) : Str)).length ≤ 2 := by split <;> decide
      omega
    rw [piled_cons]
    show (textFrom (k + 1) (acc ++ (if k > 0 then ", " else "" : String) ++ t) r).length ≤ _
    omega
theorem join_le (ts : List Str) : (Str.join ", " ts).length ≤ piled ts := by
  by_cases h : ts = []
  · subst h; decide
  · have := join_length_add ts h; omega
mutual
theorem szR_le : ∀ (n : Nat) (v : Va), datR n v = true → szR v ≤ Lm → (toD v).shown.length ≤ szR v
  | _, .non, _, _ => by simp only [toD, PyData.shown, szR]; decide
  | _, .bl b, _, _ => by cases b <;> simp only [toD, PyData.shown, szR] <;> decide
  | n, .int i, h, _ => by
    have h : i.natAbs.log2 < 1920 := by cases n <;> simpa [datR] using h
    simp only [toD, PyData.shown, szR]
    have := int_text_length_le (k := 1920) (by decide) h
    show (Str.ofString (toString i)).length ≤ 1921
    rw [PySem.ofString_length]; exact this
  | _, .str s, _, hz => by
    simp only [szR] at hz ⊢
    split at hz
    · rename_i hs
      rw [if_pos hs]
      simp only [toD, PyData.shown]
      have := PySem.StrLaws.reprText_len (cS s) (fun c hc => by
        rw [List.all_eq_true] at hs
        exact of_decide_eq_true (hs c (by simpa [cS] using hc)))
      rw [cS_len] at this
      exact this
    · omega
  | n + 1, .tup vs, h, hz => by
    simp only [datR] at h
    simp only [szR] at hz ⊢
    have := szRs_le n vs h (by omega)
    simp only [toD, PyData.shown]
    unfold tupleText
    rw [strLen_append, strLen_append]
    have e1 : ((("(" : String) : Str)).length = 1 := rfl
    have e3 : (((if (PyData.shownAll (toDs vs)).length == 1 then ",)" else ")" : String) : Str)).length ≤ 2 := by split <;> decide
    have := join_le (PyData.shownAll (toDs vs))
    omega
  | n + 1, .lst vs, h, hz => by
    simp only [datR] at h
    simp only [szR] at hz ⊢
    have := szRs_le n vs h (by omega)
    simp only [toD, PyData.shown]
    unfold listText
    rw [strLen_append]
    have e1 : ((("]" : String) : Str)).length = 1 := rfl
    have e2 : ((("[" : String) : Str)).length = 1 := rfl
    have := textFrom_le (PyData.shownAll (toDs vs)) 0 "["
    omega
  | n + 1, .dct vs, h, hz => by
    simp only [datR] at h
    simp only [szR] at hz ⊢
    have := szRk_le n vs h (by omega)
    simp only [toD, PyData.shown]
    unfold dictText
    rw [strLen_append, strLen_append]
    have e1 : ((("{" : String) : Str)).length = 1 := rfl
    have e2 : ((("}" : String) : Str)).length = 1 := rfl
    have := join_le (PyData.shownKv (toDk vs))
    omega
  | 0, .tup _, h, _ => by simp [datR] at h
  | 0, .lst _, h, _ => by simp [datR] at h
  | 0, .dct _, h, _ => by simp [datR] at h
  | n, .lck _, h, _ => by cases n <;> simp [datR] at h
  | n, .ins _ _, h, _ => by cases n <;> simp [datR] at h
  | n, .ref _, h, _ => by cases n <;> simp [datR] at h
  | n, .fn _, h, _ => by cases n <;> simp [datR] at h
  | n, .clo _ _, h, _ => by cases n <;> simp [datR] at h
  | n, .exc _ _, h, _ => by cases n <;> simp [datR] at h
theorem szRs_le : ∀ (n : Nat) (vs : List Va), vs.all (datR n) = true → szRs vs ≤ Lm → piled (PyData.shownAll (toDs vs)) ≤ szRs vs
  | _, [], _, _ => by simp [toDs, PyData.shownAll, piled, szRs]
  | n, v :: vs, h, hz => by
    rw [List.all_cons, Bool.and_eq_true] at h
    simp only [szRs] at hz ⊢
    have h1 := szR_le n v h.1 (by omega)
    have h2 := szRs_le n vs h.2 (by omega)
    simp only [toDs, PyData.shownAll, piled_cons]
    omega
theorem szRk_le : ∀ (n : Nat) (vs : List (Va × Va)), (vs.all fun p => datR n p.1 && datR n p.2) = true → szRk vs ≤ Lm → piled (PyData.shownKv (toDk vs)) ≤ szRk vs
  | _, [], _, _ => by simp [toDk, PyData.shownKv, piled, szRk]
  | n, (k, v) :: vs, h, hz => by
    rw [List.all_cons, Bool.and_eq_true, Bool.and_eq_true] at h
    simp only [szRk] at hz ⊢
    have h1 := szR_le n k h.1.1 (by omega)
    have h3 := szR_le n v h.1.2 (by omega)
    have h2 := szRk_le n vs h.2 (by omega)
    simp only [toDk, PyData.shownKv, piled_cons]
    rw [strLen_append, strLen_append]
    have e1 : (((": " : String) : Str)).length = 2 := rfl
    omega
end
theorem br_repr {C : Cfg} : BiR C .repr (rRepr C.W) := by
  refine br_one (fun _ _ => rfl) fun hid η st H v u z Q rel ru e q => ?_
  replace e : reprV (rd st v) = some z := e
  unfold reprV at e
  split at e
  · rename_i hc
    rw [Bool.and_eq_true] at hc
    cases e
    have hz : szR (rd st v) ≤ Lm := of_decide_eq_true hc.2
    refine ⟨_, _, _, u, rfl, ru.ct rel, hc.1, ?_, q η H rel Gr.refl _ (by simp [Rep, M.shown, cS_tl])⟩
    have := szR_le Dp _ hc.1 hz
    exact Nat.le_trans this (Lm_line (decide_eq_true hz))
  · cases e
end
end M
end
section
set_option Elab.async false
set_option linter.all false
set_option maxRecDepth 10000
set_option autoImplicit false
/-! Sem19: what is walked; comprehensions. -/
namespace M
open PySem PySem.Spec PyProof.Rows L2
/-- what stays true of a walked thing -/
abbrev Wt := (Addr → Prop) → List Addr → Sto → Hp → Prop
structure Stab (S : Wt) : Prop where
  gr : ∀ {hid η st H η' st' H'}, S hid η st H → Gr η st H η' st' H' → S hid η' st' H'
  hide : ∀ {hid η st H p o}, H p = none → S hid η st H → S (hid1 hid p) η st (upd H p o)
  wr : ∀ {hid η st H p o}, S (hid1 hid p) η st H → S (hid1 hid p) η st (upd H p o)
theorem stab_rep {W : Wl} {v : Va} {u : V} : Stab (fun hid η st H => Rep W (Tb hid η st) η H v u) := ⟨fun h g => h.gr g, fun hp h => h.hide hp, fun h => h.wrHid⟩
theorem stab_true : Stab (fun _ _ _ _ => True) := ⟨fun _ _ => trivial, fun _ _ => trivial, fun _ => trivial⟩
theorem Stab.and {S S' : Wt} (h : Stab S) (h' : Stab S') : Stab (fun hid η st H => S hid η st H ∧ S' hid η st H) :=
  ⟨fun x g => ⟨h.gr x.1 g, h'.gr x.2 g⟩, fun hp x => ⟨h.hide hp x.1, h'.hide hp x.2⟩, fun x => ⟨h.wr x.1, h'.wr x.2⟩⟩
def WalkOk (W : Wl) (w : Va) (J : It) (S : Wt) : Prop := ∀ (hid : Addr → Prop) (η : List Addr) (st : Sto) (H : Hp) (xs : List Va) (i : Nat), Rel W hid η st H → S hid η st H → row? (rd st w) = some xs →
  (∀ v, xs[i]? = some v → J.go i H ∧ ∀ x H', J.yld i H x H' → Rel W hid η st H' ∧ Gr η st H η st H' ∧ Rep W (Tb hid η st) η H' v x) ∧ (xs.length ≤ i → J.stop i H)
def tI (C : Cfg) (ie : E) : TI := fun σ H R => ∃ hid η st ρ, Rel C.W hid η st H ∧ EnvR C.W (Tb hid η st) η H ρ σ ∧ Res C hid η st H σ (evE C.G C.fr ie ρ st) fun w η' st' H' => (∃ xs, row? (rd st' w) = some xs) ∧ ∀ J S, Stab S → S hid η' st' H' → WalkOk C.W w J S → R J H'
section
variable {C : Cfg} {α β : Type} {hid : Addr → Prop} {η : List Addr} {st : Sto} {H : Hp} {σ : L2.St} {ρ : Sl}
variable {X : Cx} {tg a b c : Expr} {ia ib ic : E} {pos p2 p3 apos : Pos}
def iRow (K : PySem.W.Frag) (tl : TE) : TI := fun σ H R => tl σ H fun x H1 => ∃ a, x = .ref a ∧ (((∃ xs, SqL K H1 a xs) ∧ R (Itl K a) H1) ∨ ((∃ xs, SqT K H1 a xs) ∧ R (Itt K a) H1))
theorem pi_row {l : Expr} {tl : TE} (hl : PE X l tl) : PI X tg l (iRow X.K tl) := by
  refine ⟨fun pins s σ H R I h => ?_⟩
  refine thn (hl.run pins s σ H _ I h) fun v s1 ⟨x, H1, I1, r1, q1⟩ => ?_
  obtain ⟨a, e, q⟩ := q1
  subst e
  cases r1
  rcases q with ⟨⟨xs, hq⟩, q⟩ | ⟨⟨xs, hq⟩, q⟩
  · obtain ⟨its, rv, p, hz⟩ := I1.list hq
    refine wpAny_pyIter_list p.isList ?_
    refine ⟨s1.heap.objs.size, [s1.heap.objs.size], _, _, H1, rfl, I1.kept (t' := s1.toks) fun b o e => Heap.get?_push_of_some _ e, turn_list a _, ⟨_, Heap.get?_push_size _ rfl, rfl, rfl⟩, fun b hb => ?_, q⟩
    obtain rfl : b = s1.heap.objs.size := by simpa using hb
    exact I1.fpOk (Nat.le_refl _) (I1.hok.fresh (Nat.le_refl _))
  · obtain ⟨its, rv, p, hz⟩ := I1.tuple hq
    refine wpAny_pyIter_tuple (show s1.heap.IsTuple a its.toArray from p) ?_
    refine ⟨s1.heap.objs.size, [s1.heap.objs.size], _, _, H1, rfl, I1.kept (t' := s1.toks) fun b o e => Heap.get?_push_of_some _ e, turn_tuple a _, ⟨_, Heap.get?_push_size _ rfl, rfl, rfl⟩, fun b hb => ?_, q⟩
    obtain rfl : b = s1.heap.objs.size := by simpa using hb
    exact I1.fpOk (Nat.le_refl _) (I1.hok.fresh (Nat.le_refl _))
theorem pi_weak {e : Expr} {t t' : TI} (h : PI X tg e t) (m : ∀ σ H R, t' σ H R → t σ H R) : PI X tg e t' := ⟨fun pins s σ H R I q => h.run pins s σ H R I (m σ H R q)⟩
/-- which kind of row -/
def isTupV : Va → Bool
  | .tup _ => true
  | _ => false
theorem rd_row2 {W : Wl} {w : Va} {u : V} {vs : List Va} (rel : Rel W hid η st H) (h : row? (rd st w) = some vs) (r : Rep W (Tb hid η st) η H w u) :
    ∃ a us, u = .ref a ∧ (if isTupV w then SqT W.K H a us else SqL W.K H a us) ∧ Reps W (Tb hid η st) η H vs us := by
  cases e : rd st w with
  | lst ws =>
    rw [e] at h; cases h
    obtain ⟨a, us, h1, h2, h3⟩ := rd_lst rel e r
    have : isTupV w = false := by
      cases w <;> first | rfl | (simp [rd] at e)
    refine ⟨a, us, h1, ?_, h3⟩
    rw [if_neg (by rw [this]; decide)]
    exact SqL.of h2
  | tup ws =>
    rw [e] at h; cases h
    obtain ⟨ew, a, us, h1, h2, h3⟩ := rd_tup e r
    refine ⟨a, us, h1, ?_, h3⟩
    rw [if_pos (by rw [ew]; rfl)]
    exact h2.sq
  | lck ws =>
    rw [e] at h; cases h
    obtain ⟨a, us, h1, h2, h3⟩ := rd_lck e r
    have : isTupV w = false := by
      cases w <;> first | rfl | (simp [rd] at e)
    refine ⟨a, us, h1, ?_, h3⟩
    rw [if_neg (by rw [this]; decide)]
    exact h2.sq
  | _ => rw [e] at h; cases h
theorem walk_row {W : Wl} {w : Va} {a : Addr} : WalkOk W w (if isTupV w then Itt W.K a else Itl W.K a) (fun hid η st H => Rep W (Tb hid η st) η H w (.ref a)) := by
  intro hid η st H xs i rel r h
  obtain ⟨a', us, e, hs, rs⟩ := rd_row2 rel h r
  cases e
  by_cases ht : isTupV w = true
  · rw [if_pos ht] at hs ⊢
    refine ⟨fun v hv => ?_, fun hl => ⟨us, hs, by rw [← rs.length]; exact hl⟩⟩
    obtain ⟨u, hu, ru⟩ := rs.get hv
    refine ⟨⟨us, u, hs, hu⟩, fun x H' y => ?_⟩
    obtain ⟨rfl, y⟩ := y
    have := y us hs
    rw [hu] at this; cases this
    exact ⟨rel, Gr.refl, ru⟩
  · rw [if_neg ht] at hs ⊢
    refine ⟨fun v hv => ?_, fun hl => ⟨us, hs, by rw [← rs.length]; exact hl⟩⟩
    obtain ⟨u, hu, ru⟩ := rs.get hv
    refine ⟨⟨us, u, hs, hu⟩, fun x H' y => ?_⟩
    obtain ⟨rfl, y⟩ := y
    have := y us hs
    rw [hu] at this; cases this
    exact ⟨rel, Gr.refl, ru⟩
/-- a row's walk -/
theorem si_row (hK : X.K = C.W.K) (ha : PE X a (tE C ia)) : PI X tg a (tI C ia) := by
  refine pi_weak (pi_row ha) fun σ H R h => ?_
  obtain ⟨hid, η, st, ρ, rel, env, h⟩ := h
  refine ⟨hid, η, st, ρ, rel, env, h.mono fun w η1 st1 H1 r1 g1 q u ru => ?_⟩
  obtain ⟨⟨xs, e⟩, q⟩ := q
  obtain ⟨a, us, rfl, hs, rs⟩ := rd_row2 r1 e ru
  have q := q _ _ (stab_rep (W := C.W) (v := w) (u := .ref a)) ru walk_row
  refine ⟨a, rfl, ?_⟩
  rw [hK]
  by_cases ht : isTupV w = true
  · rw [if_pos ht] at hs q; exact .inr ⟨⟨us, hs⟩, q⟩
  · rw [if_neg ht] at hs q; exact .inl ⟨⟨us, hs⟩, q⟩
/-! ### ranges -/
theorem rangeL_len (lo hi : Int) : (rangeL lo hi).length = (hi - lo).toNat := by simp [rangeL]
theorem rangeL_get {lo hi : Int} {i : Nat} {v : Va} (h : (rangeL lo hi)[i]? = some v) : i < (hi - lo).toNat ∧ v = .int (lo + (i : Int)) := by
  unfold rangeL at h
  rw [List.getElem?_map] at h
  cases e : (List.range (hi - lo).toNat)[i]? with
  | none => rw [e] at h; cases h
  | some j =>
    rw [e] at h; cases h
    obtain ⟨h1, h2⟩ := List.getElem?_eq_some_iff.mp e
    rw [List.length_range] at h1
    rw [List.getElem_range] at h2
    exact ⟨h1, by rw [← h2]⟩
theorem walk_range {W : Wl} {lo hi : Int} : WalkOk W (.lst (rangeL lo hi)) (Itr lo (hi - lo).toNat) (fun _ _ _ _ => True) := by
  intro hid η st H xs i rel _ h
  cases h
  refine ⟨fun v hv => ?_, fun hl => ?_⟩
  · obtain ⟨h1, rfl⟩ := rangeL_get hv
    refine ⟨h1, fun x H' y => ?_⟩
    obtain ⟨rfl, rfl⟩ := y
    exact ⟨rel, Gr.refl, by simp [Rep]⟩
  · rw [rangeL_len] at hl; exact hl
theorem big62 {i : Int} (h : big62? i = true) : -(2 ^ 62) ≤ i ∧ i < 2 ^ 62 := by
  have h : i.natAbs < 2 ^ 62 := of_decide_eq_true h
  omega
theorem si_range1 (hg : Gl X "range") (hm : X.mg "range" = none) (ha : PE X a (tE C ia)) (na : nst a = true) : PI X tg (.Call (.Name "range" p2) [a] [] pos) (tI C (.range1 ia)) := by
  refine pi_weak (pi_range1 hg hm (pa_cons ha pa_nil (starEach_cons na)) (starEach_cons na)) fun σ H R h => ?_
  obtain ⟨hid, η, st, ρ, rel, env, h⟩ := h
  rw [evE] at h
  refine tE1 rel env h fun x η1 st1 H1 r1 g1 e1 u ru q => ?_
  cases x with
  | int j =>
    simp only at q
    split at q
    · rename_i hb
      obtain ⟨h1, h2⟩ := big62 hb
      refine ⟨j, by rw [show u = V.int j by simpa [Rep] using ru], h1, h2, ?_⟩
      have q := (q η1 H1 r1 Gr.refl).2 _ _ stab_true trivial walk_range
      simpa using q
    · exact q.elim
  | _ => exact q.elim
theorem si_range2 (hg : Gl X "range") (hm : X.mg "range" = none) (ha : PE X a (tE C ia)) (hb : PE X b (tE C ib)) (na : nst a = true) (nb : nst b = true) : PI X tg (.Call (.Name "range" p2) [a, b] [] pos) (tI C (.range2 ia ib)) := by
  refine pi_weak (pi_range2 hg hm (pa_cons ha (pa_cons hb pa_nil (starEach_cons nb)) (starEach_cons na)) (by rw [starEach_cons na, starEach_cons nb]; rfl) (starEach_cons nb)) fun σ H R h => ?_
  obtain ⟨hid, η, st, ρ, rel, env, h⟩ := h
  rw [evE] at h
  refine tE2 rel env h fun x y η1 st1 H1 r1 g1 e1 u w ru rw' q => ?_
  cases x with
  | int i =>
    cases y with
    | int j =>
      simp only at q
      split at q
      · rename_i hb
        rw [Bool.and_eq_true] at hb
        obtain ⟨h1, h2⟩ := big62 hb.1
        obtain ⟨h3, h4⟩ := big62 hb.2
        refine ⟨i, j, by rw [show u = V.int i by simpa [Rep] using ru, show w = V.int j by simpa [Rep] using rw'], ⟨h1, h2, h3, h4⟩, ?_⟩
        exact (q η1 H1 r1 Gr.refl).2 _ _ stab_true trivial walk_range
      · exact q.elim
    | _ => exact q.elim
  | _ => exact q.elim
end
end M
end
section
set_option Elab.async false
set_option linter.all false
set_option maxRecDepth 10000
set_option autoImplicit false
/-! Sem20: plain targets; comprehensions. -/
namespace M
open PySem PySem.Spec PyProof.Rows L2
/-! ### states -/
section
variable {W : Wl} {T : Addr → Prop} {η : List Addr} {H : Hp} {ρ : Sl} {σ : L2.St}
theorem EnvR.set {i : Nat} {v : Va} {u : V} (e : EnvR W T η H ρ σ) (r : Rep W T η H v u) : EnvR W T η H (ρ.set i (some v)) (σ.set i (some u)) := by
  refine ⟨by rw [List.length_set, List.length_set]; exact e.len, fun j w h => ?_⟩
  by_cases q : i = j
  · subst q
    by_cases hi : i < ρ.length
    · rw [List.getElem?_set_self hi] at h
      cases h
      exact ⟨u, by rw [List.getElem?_set_self (by rw [← e.len]; exact hi)], r⟩
    · rw [List.getElem?_eq_none (by rw [List.length_set]; omega)] at h; cases h
  · rw [List.getElem?_set_ne q] at h
    obtain ⟨x, h1, h2⟩ := e.get j w h
    exact ⟨x, by rw [List.getElem?_set_ne q]; exact h1, h2⟩
theorem EnvR.unset {i : Nat} (e : EnvR W T η H ρ σ) : EnvR W T η H (ρ.set i none) (σ.set i none) := by
  refine ⟨by rw [List.length_set, List.length_set]; exact e.len, fun j w h => ?_⟩
  by_cases q : i = j
  · subst q
    by_cases hi : i < ρ.length
    · rw [List.getElem?_set_self hi] at h; cases h
    · rw [List.getElem?_eq_none (by rw [List.length_set]; omega)] at h; cases h
  · rw [List.getElem?_set_ne q] at h
    obtain ⟨x, h1, h2⟩ := e.get j w h
    exact ⟨x, by rw [List.getElem?_set_ne q]; exact h1, h2⟩
theorem EnvR.wipe (e : EnvR W T η H ρ σ) : ∀ vs : List Nat, EnvR W T η H (M.wipe ρ vs) (L2.wipe σ vs)
  | [] => e
  | v :: vs => by unfold M.wipe L2.wipe; exact (EnvR.wipe e vs).unset
def setAll {α : Type} (ρ : List (Option α)) (is : List Nat) (vs : List α) : List (Option α) := (is.zip vs).foldl (fun ρ p => ρ.set p.1 (some p.2)) ρ
theorem setAll_cons {α : Type} (ρ : List (Option α)) (i : Nat) (is : List Nat) (v : α) (vs : List α) : setAll ρ (i :: is) (v :: vs) = setAll (ρ.set i (some v)) is vs := rfl
theorem EnvR.setAll : ∀ {is : List Nat} {vs : List Va} {us : List V} {ρ : Sl} {σ : L2.St}, EnvR W T η H ρ σ → Reps W T η H vs us → EnvR W T η H (M.setAll ρ is vs) (M.setAll σ is us)
  | [], _, _, _, _, e, _ => e
  | i :: is, [], us, _, _, e, r => by simp only [Reps] at r; subst r; exact e
  | i :: is, v :: vs, _, _, _, e, r => by
    simp only [Reps] at r
    obtain ⟨u, us, rfl, r1, r2⟩ := r
    rw [setAll_cons, setAll_cons]
    exact EnvR.setAll (e.set r1) r2
theorem wipe_set {o : Option V} : ∀ {vs : List Nat} {σ : L2.St} {i : Nat}, i ∈ vs → L2.wipe (σ.set i o) vs = L2.wipe σ vs
  | [], _, _, h => by simp at h
  | v :: vs, σ, i, h => by
    unfold L2.wipe
    by_cases q : i ∈ vs
    · rw [wipe_set q]
    · have e : i = v := by simpa [q] using h
      subst e
      have : ∀ {vs : List Nat} {σ : L2.St}, i ∉ vs → (L2.wipe (σ.set i o) vs) = (L2.wipe σ vs).set i o := by
        intro vs
        induction vs with
        | nil => intro σ _; rfl
        | cons w vs ih =>
          intro σ hn
          simp only [List.mem_cons, not_or] at hn
          unfold L2.wipe
          rw [ih hn.2, List.set_comm _ _ hn.1]
      rw [this q, List.set_set]
theorem wipe_all : ∀ {is : List Nat} {us : List V} {σ : L2.St} {vs : List Nat}, (∀ i ∈ is, i ∈ vs) → L2.wipe (setAll σ is us) vs = L2.wipe σ vs
  | [], _, _, _, _ => rfl
  | i :: is, [], _, _, _ => rfl
  | i :: is, u :: us, σ, vs, h => by
    rw [setAll_cons, wipe_all fun j hj => h j (List.mem_cons_of_mem _ hj), wipe_set (h i List.mem_cons_self)]
theorem wipe_wipe : ∀ {vs : List Nat} {σ : L2.St}, L2.wipe (L2.wipe σ vs) vs = L2.wipe σ vs := by
  have key : ∀ {vs ws : List Nat} {σ : L2.St}, (∀ i ∈ ws, i ∈ vs) → L2.wipe (L2.wipe σ ws) vs = L2.wipe σ vs := by
    intro vs ws
    induction ws with
    | nil => intro σ _; rfl
    | cons w ws ih =>
      intro σ h
      show L2.wipe ((L2.wipe σ ws).set w none) vs = _
      rw [wipe_set (h w List.mem_cons_self), ih fun i hi => h i (List.mem_cons_of_mem _ hi)]
  exact fun {vs σ} => key fun i h => h
end
/-! ### names as targets -/
def gB (K : PySem.W.Frag) (is : List Nat) : Bool → TG
  | true => fun v σ H Q => ∃ i, is = [i] ∧ Q (σ.set i (some v)) H
  | false => fun v σ H Q => ∃ a xs, v = .ref a ∧ (SqT K H a xs ∨ SqL K H a xs) ∧ xs.length = is.length ∧ Q (setAll σ is xs) H
section
variable {X : Cx} {pos : Pos}
theorem pg_weak {e : Expr} {t t' : TG} (h : PG X e t) (m : ∀ v σ H Q, t' v σ H Q → t v σ H Q) : PG X e t' := ⟨fun pins s σ H v u Q I r q => h.run pins s σ H v u Q I r (m v σ H Q q)⟩
theorem pg_or {e : Expr} {t t' : TG} (h : PG X e t) (h' : PG X e t') : PG X e (fun v σ H Q => t v σ H Q ∨ t' v σ H Q) := ⟨fun pins s σ H v u Q I r q => q.elim (h.run pins s σ H v u Q I r) (h'.run pins s σ H v u Q I r)⟩
theorem pb_one {i : Nat} {x : Str} (hN : X.N.Nodup) (hi : X.N[i]? = some x) (hx : Loc X.env.scope x) (hf : X.fn x = true ∨ X.env.scope.names.lookup x = some .local) : PG X (.Name x pos) (gB X.K [i] true) :=
  pg_weak (pg_name hN hi hx hf) fun v σ H Q ⟨j, e, q⟩ => by cases e; exact q
/-- names in a row -/
inductive PNm (X : Cx) : List Expr → List Nat → Prop where
  | nil : PNm X [] []
  | cons {i : Nat} {x : Str} {p : Pos} {es is} (hi : X.N[i]? = some x) (hx : Loc X.env.scope x) (hf : X.fn x = true ∨ X.env.scope.names.lookup x = some .local) (t : PNm X es is) : PNm X (.Name x p :: es) (i :: is)
def gN : List Nat → TGs
  | [] => gNil
  | i :: is => gCons (gName i) (gN is)
theorem PNm.pgs {es : List Expr} {is : List Nat} (hN : X.N.Nodup) (h : PNm X es is) : PGs X es (gN is) ∧ (assignEach es X.env).length = is.length ∧ (assignEach es X.env).findIdx? (·.1) = none ∧ es.length = is.length := by
  induction h with
  | nil => exact ⟨pgs_nil, rfl, rfl, rfl⟩
  | cons hi hx hf t ih =>
    obtain ⟨i1, i2, i3, i4⟩ := ih
    refine ⟨pgs_cons (pg_name hN hi hx hf) i1 rfl, by simpa [assignEach] using i2, ?_, by simp [i4]⟩
    simp only [assignEach, List.findIdx?_cons, Bool.false_eq_true, if_false]
    rw [i3]; rfl
theorem gN_red {Q : L2.St → Hp → Prop} {H : Hp} : ∀ {is : List Nat} {xs : List V} {σ : L2.St}, xs.length = is.length → Q (setAll σ is xs) H → gN is xs σ H Q
  | [], [], _, _, q => ⟨rfl, q⟩
  | [], _ :: _, _, h, _ => by simp at h
  | _ :: _, [], _, h, _ => by simp at h
  | i :: is, x :: xs, σ, h, q => ⟨x, xs, rfl, gN_red (by simpa using h) q⟩
theorem pb_tup {es : List Expr} {is : List Nat} {k : Nat} (hc : X.calm = true) (hN : X.N.Nodup) (h : PNm X es is) : PG X (.Tuple es k pos) (gB X.K is false) := by
  obtain ⟨h1, h2, h3, _⟩ := h.pgs hN
  refine pg_weak (pg_or (pg_tup hc h1 h2 h3) (pg_unl hc h1 h2 h3)) fun v σ H Q q => ?_
  obtain ⟨a, xs, rfl, hs, hl, q⟩ := q
  rcases hs with hs | hs
  · exact .inl ⟨a, xs, rfl, hs, hl, gN_red hl q⟩
  · exact .inr ⟨a, xs, rfl, hs, hl, gN_red hl q⟩
/-- what the language binds, the heap binds -/
theorem gB_red {C : Cfg} {hid : Addr → Prop} {η : List Addr} {st : Sto} {H : Hp} {σ : L2.St} {ρ ρ1 : Sl} {is : List Nat} {one : Bool} {v : Va} {u : V} {Q : L2.St → Hp → Prop} (hK : X.K = C.W.K) (rel : Rel C.W hid η st H) (env : EnvR C.W (Tb hid η st) η H ρ σ) (ru : Rep C.W (Tb hid η st) η H v u)
    (h : bindTg st ρ is one v = some ρ1) (q : ∀ σ1, EnvR C.W (Tb hid η st) η H ρ1 σ1 → (∀ vs, (∀ i ∈ is, i ∈ vs) → L2.wipe σ1 vs = L2.wipe σ vs) → Q σ1 H) : gB X.K is one u σ H Q := by
  cases one with
  | true =>
    cases is with
    | nil => cases h
    | cons i is => cases is with
      | nil => cases h; exact ⟨i, rfl, q _ (env.set ru) fun vs hv => wipe_set (hv i List.mem_cons_self)⟩
      | cons => cases h
  | false =>
    simp only [bindTg] at h
    cases e : row? (rd st v) with
    | none => rw [e] at h; cases h
    | some vs =>
      rw [e] at h
      simp only [Option.bind_some] at h
      split at h
      · rename_i hl
        cases h
        obtain ⟨a, us, rfl, hs, rs⟩ := rd_row rel e ru
        exact ⟨a, us, rfl, by rw [hK]; exact hs.symm, by rw [← rs.length]; exact hl, q _ (env.setAll rs) fun ws hv => wipe_all hv⟩
      · cases h
end
end M
end
section
set_option Elab.async false
set_option linter.all false
set_option maxRecDepth 10000
set_option autoImplicit false
/-! Sem21: list comprehensions. -/
namespace M
open PySem PySem.Spec PyProof.Rows L2
/-- nothing may be raised -/
def Cfg.calm (C : Cfg) : Cfg := { C with wx := fun _ _ _ _ => False }
section
variable {C : Cfg} {α β : Type} {hid : Addr → Prop} {η : List Addr} {st : Sto} {H : Hp} {σ : L2.St} {ρ : Sl}
variable {X : Cx} {tg a b c : Expr} {ia ib ic : E} {pos p2 p3 apos : Pos}
def tC0 (C : Cfg) (cond : Option E) : TT := fun σ H Q => ∃ hid η st ρ, Rel C.W hid η st H ∧ EnvR C.W (Tb hid η st) η H ρ σ ∧ Res C hid η st H σ (evC C.G C.fr cond ρ st) fun b η' st' H' => Q b H'
theorem pts_weak {e : List Expr} {t t' : TT} (h : PTs X e t) (m : ∀ σ H Q, t' σ H Q → t σ H Q) : PTs X e t' := ⟨fun pins s σ H Q I q => h.run pins s σ H Q I (m σ H Q q)⟩
theorem sc_none : PTs X [] (tC0 C none) := by
  refine pts_weak pts_nil fun σ H Q h => ?_
  obtain ⟨hid, η, st, ρ, rel, env, h⟩ := h
  rw [evC] at h
  exact h η H rel Gr.refl
theorem sc_some (ha : PT X a (tT C ia)) : PTs X [a] (tC0 C (some ia)) := by
  refine pts_weak (pts_one ha) fun σ H Q h => ?_
  obtain ⟨hid, η, st, ρ, rel, env, h⟩ := h
  rw [evC] at h
  exact ⟨hid, η, st, ρ, rel, env, h⟩
/-- an answer that does not raise, wished of any frame -/
theorem Res.noX {r : R Sto α} {k : α → List Addr → Sto → Hp → Prop} {hid' : Addr → Prop} {σ' : L2.St} (h : ∃ a s, M.noX r = .ok a s ∧ ∀ η' H', Rel C.W hid' η' s H' → Gr η st H η' s H' → k a η' s H') : Res C.calm hid' η st H σ' r k := by
  obtain ⟨a, s, e, q⟩ := h
  cases r with
  | ok b t => cases e; exact q
  | exc x t => cases e
  | bad => cases e
theorem noX_ok {r : R Sto α} {f : α → Sto → R Sto β} (h : ∃ b s, ((M.noX r).bind f) = .ok b s) : ∃ a s, M.noX r = .ok a s := by
  obtain ⟨b, s, e⟩ := h
  cases r with
  | ok a t => exact ⟨a, t, rfl⟩
  | exc x t => cases e
  | bad => cases e
theorem compL_noexc {w : Va} {all : List Va} {f : Va → Sto → R Sto (Option Va)} (hf : ∀ x s y s', f x s ≠ .exc y s') : ∀ (r : List Va) (s : Sto) (y : Va) (s' : Sto), compL w all f r s ≠ .exc y s'
  | [], s, y, s', h => by
    unfold compL at h
    split at h <;> cases h
  | x :: r, s, y, s', h => by
    unfold compL at h
    split at h
    · cases e : f x s with
      | ok o t =>
        rw [e, R.bind_ok] at h
        cases e2 : compL w all f r t with
        | ok vs t2 =>
          rw [e2, R.bind_ok] at h
          cases o <;> cases h
        | exc z t2 => exact compL_noexc hf r t z t2 e2
        | bad => rw [e2] at h; cases h
      | exc z t => exact hf x s z t e
      | bad => rw [e] at h; cases h
    · cases h
theorem noX_exc {r : R Sto α} {y : Va} {s : Sto} : M.noX r ≠ .exc y s := by cases r <;> exact nofun
/-- the turn of a comprehension -/
noncomputable def cTurn (G : Pg) (fr : Fr) (ρ : Sl) (vs tg : List Nat) (one : Bool) (cond : Option E) (elt : E) (x : Va) (st : Sto) : R Sto (Option Va) := match bindTg st (M.wipe ρ vs) tg one x with
  | none => .bad
  | some ρ1 => (M.noX (evC G fr cond ρ1 st)).bind fun t st => if t then (M.noX (evE G fr elt ρ1 st)).bind fun v st => .ok (some v) st else .ok none st
theorem cTurn_exc {G : Pg} {fr : Fr} {ρ : Sl} {vs tg : List Nat} {one : Bool} {cond : Option E} {elt : E} {x : Va} {st : Sto} {y : Va} {s : Sto} : cTurn G fr ρ vs tg one cond elt x st ≠ .exc y s := fun h => by
  unfold cTurn at h
  split at h
  · cases h
  · rename_i ρ1 _
    cases e : M.noX (evC G fr cond ρ1 st) with
    | ok t s2 =>
      rw [e, R.bind_ok] at h
      split at h
      · cases e2 : M.noX (evE G fr elt ρ1 s2) with
        | ok v s3 => rw [e2] at h; cases h
        | exc z s3 => exact noX_exc e2
        | bad => rw [e2] at h; cases h
      · cases h
    | exc z s2 => exact noX_exc e
    | bad => rw [e] at h; cases h
theorem se_comp {m : Bool} {elt iter : Expr} {ifs : List Expr} {scope : Scope} {own : List (Str × Nat)} {ielt iit : E} {icond : Option E} {is : List Nat} {one : Bool} (hc : X.calm = true) (hN : X.N.Nodup) (hK : X.K = C.W.K) (hi : PI X tg iter (tI C iit)) (ok : BlkOk X.N X.env.scope scope own)
    (hsub : ∀ i ∈ is, i ∈ own.map (·.2))
    (hg : ∀ (s : Shared) (H : Hp) (Ca : Addr) (cl : List (Str × Addr)) (fp : List Addr), PG (X.blk s H scope (compEnvC scope cl Ca X.env) fp) tg (gB X.K is one))
    (ht : ∀ (s : Shared) (H : Hp) (Ca : Addr) (cl : List (Str × Addr)) (fp : List Addr), PTs (X.blk s H scope (compEnvC scope cl Ca X.env) fp) ifs (tC0 C.calm icond))
    (he : ∀ (s : Shared) (H : Hp) (Ca : Addr) (cl : List (Str × Addr)) (fp : List Addr), PE (X.blk s H scope (compEnvC scope cl Ca X.env) fp) elt (tE C.calm ielt)) (hs : ∀ x, foldedSetIterable iter X.env x = pure x) :
    ∀ σ H Q, tE C (.comp m ielt is one (own.map (·.2)) iit icond) σ H Q → tLc (tI C iit) (gB X.K is one) (tC0 C.calm icond) (tE C.calm ielt) (own.map (·.2)) σ H Q := by
  intro σ H Q h
  obtain ⟨hid, η, st, ρ, rel, env, h⟩ := h
  rw [evE] at h
  refine ⟨hid, η, st, ρ, rel, env, h.bind.mono fun w η1 st1 H1 r1 g1 q => ?_⟩
  cases e : row? (rd st1 w) with
  | none => rw [e] at q; exact q.elim
  | some xs =>
    rw [e] at q
    simp only at q
    split at q
    · rename_i hsm
      refine ⟨⟨xs, rfl⟩, fun J S sb s1 wk D hD => ?_⟩
      have env1 := env.gr g1
      have nh : ¬ hid D := fun z => r1.hd D z hD
      generalize hvs : own.map (·.2) = vs at q ⊢
      have hsub : ∀ i ∈ is, i ∈ vs := by rw [← hvs]; exact hsub
      change Res C hid η1 st1 H1 σ ((compL w xs (cTurn C.G C.fr ρ vs is one icond ielt) xs st1).bind fun l st => fresh m (.lst l) st) _ at q
      let Inv' : Nat → List Addr → Sto → Hp → List Va → List V → Prop := fun i η st H av acc => Rel C.W (hid1 hid D) η st H ∧ S (hid1 hid D) η st H ∧ EnvR C.W (Tb (hid1 hid D) η st) η H ρ σ ∧ H D = some (.lst acc) ∧ Reps C.W (Tb (hid1 hid D) η st) η H av acc ∧ av.length ≤ i ∧ Gr η1 st1 H1 η st H ∧
        Res C hid η1 st1 H1 σ ((compL w xs (cTurn C.G C.fr ρ vs is one icond ielt) (xs.drop i) st).bind fun l st => fresh m (.lst (av ++ l)) st) fun v η' st' H' => ∀ u, Rep C.W (Tb hid η' st') η' H' v u → Q u H'
      refine ⟨fun i mm H => mm = xs.length - i ∧ i ≤ xs.length ∧ ∃ η st av acc, Inv' i η st H av acc, ⟨xs.length, by simp, Nat.zero_le _, η1, st1, [], [], r1.hide hD, sb.hide hD s1, env1.hide hD, upd_same, by simp [Reps], by simp, Gr.laid hD, by simpa using q⟩, ?_⟩
      rintro i mm H2 ⟨rfl, hi, η2, st2, av, acc, r2, s2, env2, hD2, ra, hal, g2, q2⟩
      by_cases hlt : i < xs.length
      · have hx : xs[i]? = some xs[i] := List.getElem?_eq_getElem hlt
        generalize xs[i] = x at hx
        rw [show xs.drop i = x :: xs.drop (i + 1) from by rw [List.drop_eq_getElem_cons hlt]; congr 1; exact (Option.some.inj ((List.getElem?_eq_getElem hlt).symm.trans hx))] at q2
        unfold compL at q2
        split at q2
        · rename_i hst
          have hrow : row? (rd st2 w) = some xs := hst
          obtain ⟨wgo, _⟩ := wk (hid1 hid D) η2 st2 H2 xs i r2 s2 hrow
          obtain ⟨go, yl⟩ := wgo x hx
          refine .inr ⟨go, fun H' => ∃ η st av acc, Inv' (i + 1) η st H' av acc, fun H' z => ⟨xs.length - (i + 1), by omega, rfl, hlt, z⟩, fun u H3 y => ?_⟩
          obtain ⟨r3, g3, ru⟩ := yl u H3 y
          have hD3 : H3 D = some (.lst acc) := (g3.keep D _ hD2 (r2.sep D (.inr rfl))).1
          have env3 := env2.gr g3
          unfold cTurn at q2
          cases eb : bindTg st2 (M.wipe ρ vs) is one x with
          | none => rw [eb] at q2; exact q2.elim
          | some ρ1 =>
            rw [eb] at q2
            simp only at q2
            refine gB_red hK r3 (env3.wipe vs) ru eb fun σ1 env4 hw => ⟨by rw [hw vs hsub]; exact wipe_wipe, ?_⟩
            rw [R.bind_assoc, R.bind_assoc] at q2
            cases ec : M.noX (evC C.G C.fr icond ρ1 st2) with
            | exc z s => exact absurd ec noX_exc
            | bad => rw [ec] at q2; exact q2.elim
            | ok t st3 =>
              rw [ec, R.bind_ok] at q2
              refine ⟨hid1 hid D, η2, st2, ρ1, r3, env4, Res.noX ⟨t, st3, ec, fun η4 H4 r4 g4 => ?_⟩⟩
              have gg : Gr η1 st1 H1 η4 st3 H4 := (g2.trans g3).trans g4
              cases t with
              | false =>
                dsimp only
                rw [if_neg (by decide)] at q2 ⊢
                simp only [R.bind_ok] at q2
                have hD4 := (g4.keep D _ hD3 (r3.sep D (.inr rfl))).1
                refine ⟨η4, st3, av, acc, r4, sb.gr (sb.gr s2 g3) g4, env3.gr g4, hD4, (ra.gr g3).gr g4, by omega, gg, ?_⟩
                rw [R.bind_assoc] at q2
                exact q2
              | true =>
                dsimp only
                rw [if_pos rfl] at q2 ⊢
                rw [R.bind_assoc] at q2
                cases ee : M.noX (evE C.G C.fr ielt ρ1 st3) with
                | exc z s => exact absurd ee noX_exc
                | bad => rw [ee] at q2; exact q2.elim
                | ok v st4 =>
                  rw [ee, R.bind_ok] at q2
                  simp only [R.bind_ok] at q2
                  refine ⟨hid1 hid D, η4, st3, ρ1, r4, env4.gr g4, Res.noX ⟨v, st4, ee, fun η5 H5 r5 g5 u2 ru2 => ?_⟩⟩
                  have hD5 := (g5.keep D _ ((g4.keep D _ hD3 (r3.sep D (.inr rfl))).1) (r4.sep D (.inr rfl))).1
                  have ra5 := ((ra.gr g3).gr g4).gr g5
                  have hz : acc.length < sizeLine := by
                    have h1 := ra.length
                    have h2 : xs.length ≤ Lm := of_decide_eq_true hsm
                    rw [sizeLine_eq]; unfold Lm at h2; omega
                  refine ⟨acc, hD5, hz, η5, st4, av ++ [v], acc ++ [u2], r5.wrHid, sb.wr (sb.gr (sb.gr (sb.gr s2 g3) g4) g5), ?_, upd_same, ?_, by simp; omega, ?_, ?_⟩
                  · have e5 := (env3.gr g4).gr g5
                    exact ⟨e5.len, fun i v h => let ⟨u, h1, h2⟩ := e5.get i v h; ⟨u, h1, h2.wrHid⟩⟩
                  · exact (ra5.append (ws := [v]) (xs := [u2]) (by simp only [Reps]; exact ⟨u2, [], rfl, ru2, rfl⟩)).wrHid
                  · refine ⟨(gg.trans g5).ids, fun c o hc hn => ?_⟩
                    have k := (gg.trans g5).keep c o hc hn
                    exact ⟨by rw [upd_ne (fun z => by rw [z, hD] at hc; cases hc)]; exact k.1, k.2⟩
                  · rw [R.bind_assoc] at q2
                    have e2 : (fun (a : List Va) (s : Sto) => ((R.ok (v :: a) s : R Sto (List Va)).bind fun l st => fresh m (.lst (av ++ l)) st)) = fun l st => fresh m (.lst (av ++ [v] ++ l)) st := by
                      funext a s
                      simp
                    rw [e2] at q2
                    exact q2
        · exact q2.elim
      · have hie : i = xs.length := by omega
        subst hie
        rw [List.drop_length] at q2
        unfold compL at q2
        split at q2
        · rename_i hst
          have hrow : row? (rd st2 w) = some xs := hst
          obtain ⟨_, stop⟩ := wk (hid1 hid D) η2 st2 H2 xs xs.length r2 s2 hrow
          refine .inl ⟨stop (Nat.le_refl _), ?_⟩
          rw [R.bind_ok, List.append_nil] at q2
          exact fr_hidL hD nh g2 r2 ra hD2 q2
        · exact q2.elim
    · exact q.elim
end
end M
end
section
set_option Elab.async false
set_option linter.all false
set_option maxRecDepth 10000
set_option autoImplicit false
/-! Sem22: statements. -/
namespace M
open PySem PySem.Spec PyProof.Rows L2
section
variable {C : Cfg} {α β : Type} {hid : Addr → Prop} {η : List Addr} {st : Sto} {H : Hp} {σ : L2.St} {ρ : Sl}
variable {X : Cx} {tg a b c : Expr} {ia ib ic : E} {pos p2 p3 apos : Pos}
/-- a comprehension as a value -/
theorem se_lc {m : Bool} {elt iter : Expr} {ifs : List Expr} {scope : Scope} {own : List (Str × Nat)} {ielt iit : E} {icond : Option E} {is : List Nat} {one : Bool} (hc : X.calm = true) (hN : X.N.Nodup) (hK : X.K = C.W.K) (hi : PI X tg iter (tI C iit)) (ok : BlkOk X.N X.env.scope scope own)
    (hsub : ∀ i ∈ is, i ∈ own.map (·.2))
    (hg : ∀ (s : Shared) (H : Hp) (Ca : Addr) (cl : List (Str × Addr)) (fp : List Addr), PG (X.blk s H scope (compEnvC scope cl Ca X.env) fp) tg (gB X.K is one))
    (ht : ∀ (s : Shared) (H : Hp) (Ca : Addr) (cl : List (Str × Addr)) (fp : List Addr), PTs (X.blk s H scope (compEnvC scope cl Ca X.env) fp) ifs (tC0 C.calm icond))
    (he : ∀ (s : Shared) (H : Hp) (Ca : Addr) (cl : List (Str × Addr)) (fp : List Addr), PE (X.blk s H scope (compEnvC scope cl Ca X.env) fp) elt (tE C.calm ielt)) (hs : ∀ x, foldedSetIterable iter X.env x = pure x) :
    PE X (.ListComp elt [⟨tg, iter, ifs, 0⟩] scope pos) (tE C (.comp m ielt is one (own.map (·.2)) iit icond)) :=
  pe_weak (pe_lc hc hN hi ok hg ht he hs) (se_comp hc hN hK hi ok hsub hg ht he hs)
/-! ### what is wished behind a statement -/
def FlP (C : Cfg) (D : Ends) (hid : Addr → Prop) (η : List Addr) (st : Sto) (fl : Fl) (σ : L2.St) (H : Hp) : Prop := match fl with
  | .nx => D.nx σ H
  | .brk => D.bk σ H
  | .cnt => D.ct σ H
  | .ret v => ∀ u, Rep C.W (Tb hid η st) η H v u → D.rt u H
def ResS (C : Cfg) (D : Ends) (hid : Addr → Prop) (η : List Addr) (st : Sto) (H : Hp) (r : RS) : Prop := match r with
  | .ok fl s => ∀ η' H' σ', Rel C.W hid η' s.2 H' → Gr η st H η' s.2 H' → EnvR C.W (Tb hid η' s.2) η' H' s.1 σ' → FlP C D hid η' s.2 fl σ' H'
  | .exc x s => (match x with
    | .exc E fs => ∀ d us η' H' σ', Rel C.W hid η' s.2 H' → Gr η st H η' s.2 H' → EnvR C.W (Tb hid η' s.2) η' H' s.1 σ' → H' d = some (.xd us) → ¬ Tb hid η' s.2 d → RepF C.W (Tb hid η' s.2) η' H' fs us → C.wx (.ref (C.W.adr E)) (some d) σ' H'
    | _ => False)
  | .bad => False
theorem ResS.gr {D : Ends} {η' : List Addr} {st' : Sto} {H' : Hp} {r : RS} (g : Gr η st H η' st' H') (h : ResS C D hid η st H r) : ResS C D hid η' st' H' r := by
  cases r with
  | ok a s => exact fun η2 H2 σ2 r2 g2 => h η2 H2 σ2 r2 (g.trans g2)
  | exc x s =>
    cases x with
    | exc E fs => exact fun d us η2 H2 σ2 r2 g2 => h d us η2 H2 σ2 r2 (g.trans g2)
    | _ => exact h
  | bad => exact h
/-- an expression within a statement -/
theorem ResS.ofE {D : Ends} {r : R Sto α} {f : α → Sl × Sto → RS} (env : EnvR C.W (Tb hid η st) η H ρ σ) (h : ResS C D hid η st H ((lift ρ r).bind f)) :
    Res C hid η st H σ r fun a η' st' H' => ResS C D hid η' st' H' (f a (ρ, st')) := by
  cases r with
  | ok a s => exact fun η2 H2 r2 g2 => ResS.gr g2 h
  | exc x s =>
    cases x with
    | exc E fs => exact fun d us η2 H2 r2 g2 => h d us η2 H2 σ r2 g2 (env.gr g2)
    | _ => exact h
  | bad => exact h
theorem ResS.ofO {D : Ends} {o : Option α} {f : α → Sl × Sto → RS} {s : Sl × Sto} (h : ResS C D hid η st H ((R.of o s).bind f)) : ∃ z, o = some z ∧ ResS C D hid η st H (f z s) := by
  cases o with
  | none => exact h.elim
  | some z => exact ⟨z, rfl, h⟩
/-- a statement and what follows -/
theorem ResS.bind {D D' : Ends} {r : RS} {f : Fl → Sl × Sto → RS} (h : ResS C D hid η st H (r.bind f)) (m : ∀ fl s η' H' σ', Rel C.W hid η' s.2 H' → Gr η st H η' s.2 H' → EnvR C.W (Tb hid η' s.2) η' H' s.1 σ' → ResS C D hid η' s.2 H' (f fl s) → FlP C D' hid η' s.2 fl σ' H') : ResS C D' hid η st H r := by
  cases r with
  | ok fl s => exact fun η2 H2 σ2 r2 g2 e2 => m fl s η2 H2 σ2 r2 g2 e2 (ResS.gr g2 h)
  | exc x s => exact h
  | bad => exact h
variable {N : Nat}
def tS (C : Cfg) (N : Nat) (s : S) : TS := fun D σ H => ∃ hid η st ρ, Rel C.W hid η st H ∧ EnvR C.W (Tb hid η st) η H ρ σ ∧ ResS C D hid η st H (evS C.G N C.fr s ρ st)
def tSs (C : Cfg) (N : Nat) (s : List S) : TS := fun D σ H => ∃ hid η st ρ, Rel C.W hid η st H ∧ EnvR C.W (Tb hid η st) η H ρ σ ∧ ResS C D hid η st H (evSs C.G N C.fr s ρ st)
theorem ps_weak {e : Stmt} {t t' : TS} (h : PS X e t) (m : ∀ D σ H, t' D σ H → t D σ H) : PS X e t' := ⟨fun pins s σ H D I q => h.run pins s σ H D I (m D σ H q)⟩
theorem pss_weak {e : List Stmt} {t t' : TS} (h : PSs X e t) (m : ∀ D σ H, t' D σ H → t D σ H) : PSs X e t' := ⟨fun pins s σ H D I q => h.run pins s σ H D I (m D σ H q)⟩
theorem ss_nil : PSs X [] (tSs C N []) := by
  refine pss_weak pss_nil fun D σ H h => ?_
  obtain ⟨hid, η, st, ρ, rel, env, h⟩ := h
  rw [evSs] at h
  exact h η H σ rel Gr.refl env
theorem ss_cons {s : Stmt} {ss : List Stmt} {i : S} {is : List S} (h1 : PS X s (tS C N i)) (h2 : PSs X ss (tSs C N is)) : PSs X (s :: ss) (tSs C N (i :: is)) := by
  refine pss_weak (pss_cons h1 h2) fun D σ H h => ?_
  obtain ⟨hid, η, st, ρ, rel, env, h⟩ := h
  rw [evSs] at h
  refine ⟨hid, η, st, ρ, rel, env, h.bind fun fl s η' H' σ' r' g' e' q => ?_⟩
  cases fl with
  | nx => exact ⟨hid, η', s.2, s.1, r', e', q⟩
  | ret v => exact q η' H' σ' r' Gr.refl e'
  | brk => exact q η' H' σ' r' Gr.refl e'
  | cnt => exact q η' H' σ' r' Gr.refl e'
/-! ### simple statements -/
theorem ss_pass : PS X (.Pass pos) (tS C N .pass) := by
  refine ps_weak ps_pass fun D σ H h => ?_
  obtain ⟨hid, η, st, ρ, rel, env, h⟩ := h
  rw [evS] at h
  exact h η H σ rel Gr.refl env
theorem ss_brk : PS X (.Break pos) (tS C N .brk) := by
  refine ps_weak ps_break fun D σ H h => ?_
  obtain ⟨hid, η, st, ρ, rel, env, h⟩ := h
  rw [evS] at h
  exact h η H σ rel Gr.refl env
theorem ss_cnt : PS X (.Continue pos) (tS C N .cnt) := by
  refine ps_weak ps_continue fun D σ H h => ?_
  obtain ⟨hid, η, st, ρ, rel, env, h⟩ := h
  rw [evS] at h
  exact h η H σ rel Gr.refl env
theorem ss_expr (ha : PE X a (tE C ia)) (hs : swapsWith a none pos.line X.env = pure false) : PS X (.Expr a pos) (tS C N (.expr ia)) := by
  refine ps_weak (ps_expr ha hs) fun D σ H h => ?_
  obtain ⟨hid, η, st, ρ, rel, env, h⟩ := h
  rw [evS] at h
  refine ⟨hid, η, st, ρ, rel, env, (h.ofE env).mono fun v η1 st1 H1 r1 g1 q u ru => ?_⟩
  exact q η1 H1 σ r1 Gr.refl (env.gr g1)
theorem ss_ret (ha : PE X a (tE C ia)) : PS X (.Return (some a) pos) (tS C N (.ret ia)) := by
  refine ps_weak (ps_ret ha) fun D σ H h => ?_
  obtain ⟨hid, η, st, ρ, rel, env, h⟩ := h
  rw [evS] at h
  refine ⟨hid, η, st, ρ, rel, env, (h.ofE env).mono fun v η1 st1 H1 r1 g1 q u ru => ?_⟩
  exact q η1 H1 σ r1 Gr.refl (env.gr g1) u ru
theorem ss_retN : PS X (.Return none pos) (tS C N .retN) := by
  refine ps_weak ps_retN fun D σ H h => ?_
  obtain ⟨hid, η, st, ρ, rel, env, h⟩ := h
  rw [evS] at h
  exact h η H σ rel Gr.refl env _ (by simp [Rep])
theorem ss_if {sa sb : List Stmt} {as bs : List S} (hc : PT X c (tT C ic)) (ha : PSs X sa (tSs C N as)) (hb : PSs X sb (tSs C N bs)) : PS X (.If c sa sb pos) (tS C N (.ifs ic as bs)) := by
  refine ps_weak (ps_if hc ha hb) fun D σ H h => ?_
  obtain ⟨hid, η, st, ρ, rel, env, h⟩ := h
  rw [evS] at h
  refine ⟨hid, η, st, ρ, rel, env, ?_⟩
  cases e : evE C.G C.fr ic ρ st with
  | ok x s =>
    rw [e] at h
    simp only [lift_ok, R.bind_ok] at h ⊢
    cases et : truth x with
    | none => rw [et] at h; exact h.elim
    | some t =>
      rw [et] at h
      simp only [R.of_some, R.bind_ok] at h ⊢
      intro η' H' r' g'
      cases t with
      | true => rw [if_pos rfl] at h ⊢; exact ⟨hid, η', s, ρ, r', env.gr g', h.gr g'⟩
      | false => rw [if_neg (by decide)] at h ⊢; exact ⟨hid, η', s, ρ, r', env.gr g', h.gr g'⟩
  | exc x s =>
    rw [e] at h
    cases x with
    | exc E fs => exact fun d us η2 H2 r2 g2 => h d us η2 H2 σ r2 g2 (env.gr g2)
    | _ => exact h
  | bad => rw [e] at h; exact h.elim
/-! ### loops -/
theorem ss_for {iter : Expr} {body : List Stmt} {iit : E} {is : List Nat} {one : Bool} {ib : List S} (hp : PassesOwn (model X.prog X.w) X.A X.env X.xe) (hc : X.calm = true) (hK : X.K = C.W.K) (hi : PI X tg iter (tI C iit)) (hg : PG X tg (gB X.K is one)) (hb : PSs X body (tSs C N ib))
    (hs : ∀ x, foldedSetIterable iter X.env x = pure x) : PS X (.For tg iter body [] pos) (tS C N (.fors is one iit ib)) := by
  refine ps_weak (ps_for hp hc hi hg hb hs) fun D σ H h => ?_
  obtain ⟨hid, η, st, ρ, rel, env, h⟩ := h
  rw [evS] at h
  refine ⟨hid, η, st, ρ, rel, env, (h.ofE env).mono fun w η1 st1 H1 r1 g1 q => ?_⟩
  simp only at q
  cases e : row? (rd st1 w) with
  | none => rw [e] at q; exact q.elim
  | some xs =>
    rw [e] at q
    simp only at q
    refine ⟨⟨xs, rfl⟩, fun J Sx sb s1 wk => ?_⟩
    generalize hf : (fun (x : Va) (ρ : Sl) (st : Sto) => (match bindTg st ρ is one x with
      | none => R.bad
      | some ρ1 => evSs C.G N C.fr ib ρ1 st : RS)) = f at q
    refine ⟨fun i mm σ H => mm = xs.length - i ∧ i ≤ xs.length ∧ ∃ η st ρ, Rel C.W hid η st H ∧ Sx hid η st H ∧ EnvR C.W (Tb hid η st) η H ρ σ ∧ ResS C D hid η st H (forL w xs f (xs.drop i) ρ st), ⟨xs.length, by simp, Nat.zero_le _, η1, st1, ρ, r1, s1, env.gr g1, by simpa using q⟩, ?_⟩
    rintro i mm σ2 H2 ⟨rfl, hi, η2, st2, ρ2, r2, s2, env2, q2⟩
    by_cases hlt : i < xs.length
    · have hx : xs[i]? = some xs[i] := List.getElem?_eq_getElem hlt
      generalize xs[i] = x at hx
      rw [show xs.drop i = x :: xs.drop (i + 1) from by rw [List.drop_eq_getElem_cons hlt]; congr 1; exact (Option.some.inj ((List.getElem?_eq_getElem hlt).symm.trans hx))] at q2
      unfold forL at q2
      split at q2
      · rename_i hst
        have hrow : row? (rd st2 w) = some xs := hst
        obtain ⟨wgo, _⟩ := wk hid η2 st2 H2 xs i r2 s2 hrow
        obtain ⟨go, yl⟩ := wgo x hx
        refine .inr ⟨go, fun σ' H' => ∃ η st ρ, Rel C.W hid η st H' ∧ Sx hid η st H' ∧ EnvR C.W (Tb hid η st) η H' ρ σ' ∧ ResS C D hid η st H' (forL w xs f (xs.drop (i + 1)) ρ st), fun σ' H' z => ⟨xs.length - (i + 1), by omega, rfl, hlt, z⟩, fun u H3 y => ?_⟩
        obtain ⟨r3, g3, ru⟩ := yl u H3 y
        have hfx : f x ρ2 st2 = (match bindTg st2 ρ2 is one x with
            | none => R.bad
            | some ρ1 => evSs C.G N C.fr ib ρ1 st2 : RS) := by rw [← hf]
        rw [hfx] at q2
        cases eb : bindTg st2 ρ2 is one x with
        | none => rw [eb] at q2; exact q2.elim
        | some ρ1 =>
          rw [eb] at q2
          simp only at q2
          refine gB_red hK r3 (env2.gr g3) ru eb fun σ1 env4 _ => ⟨hid, η2, st2, ρ1, r3, env4, (ResS.gr g3 q2).bind fun fl s η' H' σ' r' g' e' q3 => ?_⟩
          have s4 := sb.gr (sb.gr s2 g3) g'
          cases fl with
          | nx => exact ⟨η', s.2, s.1, r', s4, e', q3⟩
          | cnt => exact ⟨η', s.2, s.1, r', s4, e', q3⟩
          | brk => exact q3 η' H' σ' r' Gr.refl e'
          | ret v => exact q3 η' H' σ' r' Gr.refl e'
      · exact q2.elim
    · have hie : i = xs.length := by omega
      subst hie
      rw [List.drop_length] at q2
      unfold forL at q2
      split at q2
      · rename_i hst
        have hrow : row? (rd st2 w) = some xs := hst
        obtain ⟨_, stop⟩ := wk hid η2 st2 H2 xs xs.length r2 s2 hrow
        exact .inl ⟨stop (Nat.le_refl _), q2 η2 H2 σ2 r2 Gr.refl env2⟩
      · exact q2.elim
theorem ss_while {body : List Stmt} {ib : List S} (hp : PassesOwn (model X.prog X.w) X.A X.env X.xe) (hc : PT X c (tT C ic)) (hb : PSs X body (tSs C N ib)) : PS X (.While c body [] pos) (tS C N (.whl ic ib)) := by
  refine ps_weak (ps_while hp hc hb) fun D σ H h => ?_
  obtain ⟨hid, η, st, ρ, rel, env, h⟩ := h
  rw [evS] at h
  generalize hcf : (fun (ρ : Sl) (st : Sto) => ((lift ρ (evE C.G C.fr ic ρ st)).bind fun x s => R.of (truth x) s : R (Sl × Sto) Bool)) = cf at h
  generalize hff : (fun (ρ : Sl) (st : Sto) => (evSs C.G N C.fr ib ρ st : RS)) = ff at h
  refine ⟨fun n σ H => ∃ η st ρ, Rel C.W hid η st H ∧ EnvR C.W (Tb hid η st) η H ρ σ ∧ ResS C D hid η st H (whlL cf ff n ρ st), ⟨N, η, st, ρ, rel, env, h⟩, ?_⟩
  rintro n σ2 H2 ⟨η2, st2, ρ2, r2, env2, q⟩
  cases n with
  | zero => exact q.elim
  | succ n =>
    unfold whlL at q
    rw [← hcf] at q
    refine ⟨hid, η2, st2, ρ2, r2, env2, ?_⟩
    simp only at q
    cases e : evE C.G C.fr ic ρ2 st2 with
    | ok x s =>
      rw [e] at q
      simp only [lift_ok, R.bind_ok] at q ⊢
      cases et : truth x with
      | none => rw [et] at q; exact q.elim
      | some t =>
        rw [et] at q
        simp only [R.of_some, R.bind_ok] at q ⊢
        intro η' H' r' g'
        cases t with
        | true =>
          rw [if_pos rfl] at q ⊢
          refine ⟨fun σ' H' => ∃ η st ρ, Rel C.W hid η st H' ∧ EnvR C.W (Tb hid η st) η H' ρ σ' ∧ ResS C D hid η st H' (whlL cf ff n ρ st), fun σ' H' z => ⟨n, by omega, z⟩, ?_⟩
          rw [← hff] at q
          refine ⟨hid, η', s, ρ2, r', env2.gr g', (ResS.gr g' q).bind fun fl s2 η3 H3 σ3 r3 g3 e3 q3 => ?_⟩
          rw [hcf, hff] at q3
          cases fl with
          | nx => exact ⟨η3, s2.2, s2.1, r3, e3, q3⟩
          | cnt => exact ⟨η3, s2.2, s2.1, r3, e3, q3⟩
          | brk => exact q3 η3 H3 σ3 r3 Gr.refl e3
          | ret v => exact q3 η3 H3 σ3 r3 Gr.refl e3
        | false =>
          rw [if_neg (by decide)] at q ⊢
          exact q η' H' σ2 r' g' (env2.gr g')
    | exc x s =>
      rw [e] at q
      cases x with
      | exc E fs => exact fun d us η2 H2 r2 g2 => q d us η2 H2 σ2 r2 g2 (env2.gr g2)
      | _ => exact q
    | bad => rw [e] at q; exact q.elim
end
end M
end
section
set_option Elab.async false
set_option linter.all false
set_option maxRecDepth 10000
set_option autoImplicit false
/-! Sem23: assignments; a def's body keeps its promise. -/
namespace M
open PySem PySem.Spec PyProof.Rows L2
section
variable {C : Cfg} {α β : Type} {hid : Addr → Prop} {η : List Addr} {st : Sto} {H : Hp} {σ : L2.St} {ρ : Sl}
variable {X : Cx} {tg a b c e : Expr} {ia ib ic ie : E} {pos p2 p3 apos : Pos} {N : Nat}
/-- a value given to a target -/
theorem asg_red {t : Tg} {D : Ends} {K : V → Hp → Prop} (rel : Rel C.W hid η st H) (env : EnvR C.W (Tb hid η st) η H ρ σ) (h : ResS C D hid η st H (evS C.G N C.fr (.asg t ie) ρ st))
    (q : ∀ v η1 st1 H1 u, Rel C.W hid η1 st1 H1 → EnvR C.W (Tb hid η1 st1) η1 H1 ρ σ → Rep C.W (Tb hid η1 st1) η1 H1 v u → ResS C D hid η1 st1 H1 ((evTg C.G C.fr t v ρ st1).bind fun _ s => .ok .nx s) → K u H1) : tE C ie σ H K := by
  rw [evS] at h
  exact ⟨hid, η, st, ρ, rel, env, (h.ofE env).mono fun v η1 st1 H1 r1 g1 q1 u ru => q v η1 st1 H1 u r1 (env.gr g1) ru q1⟩
theorem ss_setNm {i : Nat} {x : Str} (hN : X.N.Nodup) (hi : X.N[i]? = some x) (hx : Loc X.env.scope x) (hf : X.fn x = true ∨ X.env.scope.names.lookup x = some .local) (he : PE X e (tE C ie)) (hs : swapsWith e (some (.Name x p2)) pos.line X.env = pure false) :
    PS X (.Assign [.Name x p2] e pos) (tS C N (.asg (.nm i) ie)) := by
  refine ps_weak (ps_set hN hi hx he hs hf) fun D σ H h => ?_
  obtain ⟨hid, η, st, ρ, rel, env, h⟩ := h
  refine asg_red rel env h fun v η1 st1 H1 u r1 e1 ru q => ?_
  rw [evTg] at q
  exact q η1 H1 _ r1 Gr.refl (e1.set ru)
/-- name = [..], its own store -/
theorem ss_setLc {m : Bool} {i : Nat} {x : Str} {elt iter : Expr} {ifs : List Expr} {scope : Scope} {own : List (Str × Nat)} {ielt iit : E} {icond : Option E} {is : List Nat} {one : Bool} (hc : X.calm = true) (hN : X.N.Nodup) (hK : X.K = C.W.K) (hi : X.N[i]? = some x) (hxl : X.env.scope.names.lookup x = some .local)
    (hsw : swapsWith (.ListComp elt [⟨tg, iter, ifs, 0⟩] scope p3) (some (.Name x p2)) pos.line X.env = pure true) (hit : PI X tg iter (tI C iit)) (ok : BlkOk X.N X.env.scope scope own)
    (hsub : ∀ i ∈ is, i ∈ own.map (·.2))
    (hg : ∀ (s : Shared) (H : Hp) (Ca : Addr) (cl : List (Str × Addr)) (fp : List Addr), PG (X.blk s H scope (compEnvC scope cl Ca X.env) fp) tg (gB X.K is one))
    (ht : ∀ (s : Shared) (H : Hp) (Ca : Addr) (cl : List (Str × Addr)) (fp : List Addr), PTs (X.blk s H scope (compEnvC scope cl Ca X.env) fp) ifs (tC0 C.calm icond))
    (he : ∀ (s : Shared) (H : Hp) (Ca : Addr) (cl : List (Str × Addr)) (fp : List Addr), PE (X.blk s H scope (compEnvC scope cl Ca X.env) fp) elt (tE C.calm ielt)) (hs : ∀ x, foldedSetIterable iter X.env x = pure x) :
    PS X (.Assign [.Name x p2] (.ListComp elt [⟨tg, iter, ifs, 0⟩] scope p3) pos) (tS C N (.asg (.nm i) (.comp m ielt is one (own.map (·.2)) iit icond))) := by
  refine ps_weak (ps_setLc hc hN hi hxl hsw hit ok hg ht he hs) fun D σ H h => ?_
  obtain ⟨hid, η, st, ρ, rel, env, h⟩ := h
  refine se_comp (m := m) hc hN hK hit ok hsub hg ht he hs σ H _ ?_
  refine asg_red rel env h fun v η1 st1 H1 u r1 e1 ru q => ?_
  rw [evTg] at q
  exact q η1 H1 _ r1 Gr.refl (e1.set ru)
theorem evTgs_nm {G : Pg} {fr : Fr} : ∀ {is : List Nat} {vs : List Va} {ρ : Sl} {st : Sto}, vs.length = is.length → evTgs G fr (is.map .nm) vs ρ st = .ok () (setAll ρ is vs, st)
  | [], [], ρ, st, _ => by rw [List.map_nil, evTgs]; rfl
  | [], _ :: _, _, _, h => by simp at h
  | _ :: _, [], _, _, h => by simp at h
  | i :: is, v :: vs, ρ, st, h => by
    rw [List.map_cons, evTgs]
    simp only [evTg, R.bind_ok]
    rw [evTgs_nm (by simpa using h)]
    rfl
theorem ss_setTup {es : List Expr} {is : List Nat} {k : Nat} (hc : X.calm = true) (hN : X.N.Nodup) (hK : X.K = C.W.K) (hn : PNm X es is) (he : PE X e (tE C ie)) (hs : swapsWithSole [.Tuple es k p2] e pos.line X.env = pure false) (hw : swappedStores [.Tuple es k p2] e X.env = pure none) :
    PS X (.Assign [.Tuple es k p2] e pos) (tS C N (.asg (.tp (is.map .nm)) ie)) := by
  refine ps_weak (ps_asg he (pb_tup hc hN hn) hs hw rfl) fun D σ H h => ?_
  obtain ⟨hid, η, st, ρ, rel, env, h⟩ := h
  refine asg_red rel env h fun v η1 st1 H1 u r1 e1 ru q => ?_
  rw [evTg] at q
  cases er : row? (rd st1 v) with
  | none => rw [er] at q; exact q.elim
  | some vs =>
    rw [er] at q
    simp only at q
    split at q
    · rename_i hl
      rw [List.length_map] at hl
      rw [evTgs_nm hl, R.bind_ok] at q
      refine gB_red (ρ1 := setAll ρ is vs) hK r1 e1 ru ?_ fun σ1 e2 _ => q η1 H1 σ1 r1 Gr.refl e2
      simp only [bindTg]
      rw [er]
      simp only [Option.bind_some]
      rw [if_pos hl]; rfl
    · exact q.elim
/-- a, b = x, y -/
theorem ss_par {i j : Nat} {x y : Str} {px py pt : Pos} {kt k2 : Nat} {pt2 : Pos} (hc : X.calm = true) (hN : X.N.Nodup) (hi : X.N[i]? = some x) (hj : X.N[j]? = some y) (hij : i ≠ j)
    (hx : X.env.scope.names.lookup x = some .local) (hy : X.env.scope.names.lookup y = some .local) (ha : PE X a (tE C ia)) (hb : PE X b (tE C ib)) (na : nst a = true) (nb : nst b = true)
    (hw : swappedStores [.Tuple [.Name x px, .Name y py] kt pt] (.Tuple [a, b] k2 pt2) X.env = pure (some [x, y])) :
    PS X (.Assign [.Tuple [.Name x px, .Name y py] kt pt] (.Tuple [a, b] k2 pt2) pos) (tS C N (.asg (.tp [.nm i, .nm j]) (.tup [ia, ib]))) := by
  refine ps_weak (ps_par hc hN hi hj hij hx hy (pa_cons ha (pa_cons hb pa_nil (starEach_cons nb)) (starEach_cons na)) hw rfl) fun D σ H h => ?_
  obtain ⟨hid, η, st, ρ, rel, env, h⟩ := h
  rw [evS, evE] at h
  have h := (h.ofE env).bind
  simp only [evEs] at h
  refine tE1 rel env h fun v η1 st1 H1 r1 g1 e1 u ru q => ?_
  rw [R.bind_assoc] at q
  refine tE1 r1 e1 q fun w η2 st2 H2 r2 g2 e2 z rz q => ?_
  simp only [R.bind_ok] at q
  have q := q η2 H2 r2 Gr.refl
  refine ⟨u, z, rfl, ?_⟩
  have q := q η2 H2 r2 Gr.refl
  simp only [evTg, rd, row?, List.length_cons, List.length_nil, if_true, evTgs, evTg, R.bind_ok] at q
  exact q η2 H2 _ r2 Gr.refl ((e2.set (ru.gr g2)).set rz)
/-! ### stores into objects -/
def rSetRD : TSet := fun o i v H Q => rSetL o i v H Q ∨ ∃ a H', o = .ref a ∧ DPut H a i v H' ∧ Q H'
theorem set_rd (hu : X.A.units + 64 < cLine) : PSet X rSetRD := by
  intro pins s σ H o i v ov iv u Q I ro ri rv h
  rcases h with h | ⟨a, H', rfl, g, q⟩
  · exact set_list pins s σ H o i v ov iv u Q I ro ri rv h
  · obtain rfl : ov = Value.ref a := ro
    exact d_setItem (by omega) I g ri rv fun s' I' => ⟨H', I', q⟩
theorem asg_sub {o i : Expr} {env : Env} (h : plainIx i = true) : ∀ v, assign (.Subscript o i pos) env v = (do
      let ov ← holding [v] (eval o env)
      let iv ← holding [v, ov] (eval i env)
      standAt pos
      holding [v, ov, iv] (setItem ov iv v)
      release [v, ov, iv] []) := fun v => by
  cases i <;> first | rfl | cases h
theorem put_dct {n : Nat} {vs vs' : List (Va × Va)} {us' : List (Key × V)} {a : Addr} (rel : Rel C.W hid η st H) (e : st[n]? = some (.dct vs)) (ea : η[n]? = some a) (r : RepK C.W (Tb hid η st) η H vs' us') :
    Rel C.W hid η (st.set n (.dct vs')) (upd H a (.dK us')) ∧ Gr η st H η (st.set n (.dct vs')) (upd H a (.dK us')) :=
  rel.write e ea rfl rfl ⟨us', upd_same, r.upd_lv ⟨n, _, e, rfl, ea⟩⟩
theorem Reps.set {W : Wl} {T : Addr → Prop} {η : List Addr} {H : Hp} {v : Va} {u : V} (r : Rep W T η H v u) : ∀ {vs : List Va} {us : List V} (j : Nat), Reps W T η H vs us → Reps W T η H (vs.set j v) (us.set j u)
  | [], _, j, h => by simp only [Reps] at h; subst h; simp [Reps]
  | w :: vs, _, 0, h => by
    simp only [Reps] at h
    obtain ⟨x, us, rfl, h1, h2⟩ := h
    simp only [List.set_cons_zero, Reps]
    exact ⟨u, us, rfl, r, h2⟩
  | w :: vs, _, j + 1, h => by
    simp only [Reps] at h
    obtain ⟨x, us, rfl, h1, h2⟩ := h
    simp only [List.set_cons_succ, Reps]
    exact ⟨x, _, rfl, h1, Reps.set r j h2⟩
theorem ss_sub {o i : Expr} {io ii : E} (hu : X.A.units + 64 < cLine) (he : PE X e (tE C ie)) (ho : PE X o (tE C io)) (hi : PE X i (tE C ii)) (hx : plainIx i = true) (hs : swapsWithSole [.Subscript o i p2] e pos.line X.env = pure false) (hw : swappedStores [.Subscript o i p2] e X.env = pure none) :
    PS X (.Assign [.Subscript o i p2] e pos) (tS C N (.asg (.ix io ii) ie)) := by
  refine ps_weak (ps_asg he (pg_sub ho hi (set_rd hu) (asg_sub hx)) hs hw rfl) fun D σ H h => ?_
  obtain ⟨hid, η, st, ρ, rel, env, h⟩ := h
  refine asg_red rel env h fun v η1 st1 H1 u r1 e1 ru q => ?_
  rw [evTg, R.bind_assoc] at q
  refine ⟨hid, η1, st1, ρ, r1, e1, (q.ofE e1).mono fun x η2 st2 H2 r2 g2 q w rw' => ?_⟩
  rw [R.bind_assoc] at q
  refine ⟨hid, η2, st2, ρ, r2, e1.gr g2, (q.ofE (e1.gr g2)).mono fun k η3 st3 H3 r3 g3 q z rz => ?_⟩
  have rv := (ru.gr g2).gr g3
  have rx := rw'.gr g3
  have e3 := (e1.gr g2).gr g3
  simp only at q
  cases es : setItemV x k v st3 with
  | none => rw [es] at q; exact q.elim
  | some st4 =>
    rw [es] at q
    simp only [R.bind_ok] at q
    unfold setItemV at es
    split at es
    · rename_i n vs hv
      split at es
      · rename_i kk
        obtain ⟨j, ej, rfl⟩ := Option.map_eq_some_iff.mp es
        have en := ref_lst hv
        simp only [Rep] at rx
        obtain ⟨p, ep, rfl⟩ := rx
        obtain ⟨us, h1, h2⟩ := r3.obs n _ p en ep
        obtain ⟨r4, g4⟩ := put_lst r3 en ep (Reps.set rv j h2)
        refine .inl ⟨p, us, kk, j, rfl, by simpa [Rep] using rz, h1, by rw [← h2.length]; exact ej, ?_⟩
        exact q η3 _ σ r4 g4 (e3.gr g4)
      · cases es
    · rename_i n kvs hv
      split at es
      · rename_i hk
        cases es
        rw [Bool.and_eq_true] at hk
        have en := ref_dct hv
        simp only [Rep] at rx
        obtain ⟨p, ep, rfl⟩ := rx
        obtain ⟨us, h1, h2⟩ := r3.obs n _ p en ep
        obtain ⟨c, hc⟩ := isKey_some hk.1
        have ez := keyV_rep hc rz
        subst ez
        obtain ⟨r4, g4⟩ := put_dct r3 en ep (h2.put hc rv)
        have hl : us.length < sizeLine := by
          have h : kvs.length ≤ Lm := of_decide_eq_true hk.2
          rw [← h2.length, sizeLine_eq]; unfold Lm at h; omega
        exact .inr ⟨p, _, rfl, DPut.k h1 hl, q η3 _ σ r4 g4 (e3.gr g4)⟩
      · cases es
    · cases es
theorem ss_fld {o : Expr} {io : E} {f : String} {x : Str} (hx : sS f = x) (ok : AtOk C) (hK : X.K = C.W.K) (ho : PE X o (tE C io)) (he : PE X e (tE C ie)) (hs : swapsWith e (some (.Attribute o x p2)) pos.line X.env = pure false) : PS X (.Assign [.Attribute o x p2] e pos) (tS C N (.asg (.at_ io f) ie)) := by
  subst hx
  refine ps_weak (ps_fld ho he hs) fun D σ H h => ?_
  obtain ⟨hid, η, st, ρ, rel, env, h⟩ := h
  refine asg_red rel env h fun v η1 st1 H1 u r1 e1 ru q => ?_
  rw [evTg, R.bind_assoc] at q
  refine ⟨hid, η1, st1, ρ, r1, e1, (q.ofE e1).mono fun x η2 st2 H2 r2 g2 q w rw' => ?_⟩
  simp only at q
  cases x with
  | ref n =>
    cases hv : rd st2 (.ref n) with
    | ins E fs =>
      rw [hv] at q
      simp only at q
      split at q
      · rename_i hc
        rw [Bool.and_eq_true, decide_eq_true_eq] at hc
        have en := ref_ins hv
        simp only [Rep] at rw'
        obtain ⟨p, ep, rfl⟩ := rw'
        obtain ⟨dx, us, h1, h2⟩ := r2.obs n _ p en ep
        obtain ⟨c1, c2⟩ := ok E f hc.1
        obtain ⟨r4, g4⟩ := r2.write (ob := .ins E (M.putF fs f v)) (ho := .ins (C.W.adr E) dx (L2.putF (sS f) u us)) en ep rfl rfl ⟨dx, _, upd_same, (h2.put (ru.gr g2)).upd_lv ⟨n, _, en, rfl, ep⟩⟩
        refine ⟨p, _, dx, us, rfl, h1, by rw [hK]; exact c1, by rw [hK]; exact c2, by rw [← h2.length]; omega, ?_⟩
        exact q η2 _ σ r4 g4 ((e1.gr g2).gr g4)
      · exact q.elim
    | _ => rw [hv] at q; exact q.elim
  | _ => exact q.elim
end
/-! ### a def's body -/
/-- the context of a def's body -/
structure FnX (L : Ld) (k : Nat) (Nn : List Str) (sc : Scope) (wx : WX) (X : Cx) : Prop where
  ld : ldOf X = L
  N : X.N = Nn
  sc : X.env.scope = sc
  calm : X.calm = true
  gd : X.A.guards = some []
  room : Room k X.A
  tk : Takes X wx
  pass : PassesOwn (model X.prog X.w) X.A X.env X.xe
  fn : ∀ x, X.fn x = true
  stk : X.stack = X.env :: X.outer
  fr : X.env.frame = some X.env.locals
theorem start_env {W : Wl} {T : Addr → Prop} {η : List Addr} {H : Hp} {as : List Va} {vs : List V} {Nn : List Str} {ns : Nat} (r : Reps W T η H as vs) (hn : Nn.length = ns) : EnvR W T η H (as.map some ++ List.replicate (ns - as.length) none) (L2.start Nn vs) := by
  have hl := r.length
  refine ⟨by simp [L2.start, hl, hn], fun i v h => ?_⟩
  by_cases hi : i < as.length
  · rw [List.getElem?_append_left (by simpa using hi), List.getElem?_map] at h
    cases e : as[i]? with
    | none => rw [e] at h; cases h
    | some a =>
      rw [e] at h
      cases h
      obtain ⟨u, h1, h2⟩ := r.get e
      refine ⟨u, ?_, h2⟩
      unfold L2.start
      rw [List.getElem?_append_left (by simp; omega), List.getElem?_map, h1]
      rfl
  · rw [List.getElem?_append_right (by simpa using hi), List.getElem?_replicate] at h
    split at h <;> cases h
/-- THE RULE of a def -/
theorem fnG_of {L : Ld} {W : Wl} {G : Pg} {k Nf : Nat} {md : Bool} {ns np : Nat} {irs : List S} {f : Addr} {name qual : Str} {params : Arguments} {body : List Stmt} {scope : Scope} {dV kV doc pm cdv ct oc : Value} {an od : Option Addr} {osl : Array (Option Value)} {Nn ps : List Str}
    (lk : L.K.lookup f = some ⟨oc, od, .func (PySem.W.fnOf name qual params body scope dV kV doc pm an cdv ct), osl⟩) (hcd : PySem.W.codeIn L.K cdv qual = true) (Sc : FnScope Nn ps scope) (hnp : ps.length = np) (hns : Nn.length = ns)
    (hb : ∀ (X : Cx) (fr : Fr) (wx : WX), FnX L k Nn scope wx X → PSs X body (tSs ⟨W, G, fr, wx⟩ Nf irs)) : FnG L (k + 1) f (PySem.W.fnOf name qual params body scope dV kV doc pm an cdv ct) ps (spM W (runF G Nf md ns np irs)) := by
  refine ⟨fun vs H Q E h => by rw [spM_len ar_runF h, hnp], fun A outer s H args us vs Q E hr hg e0 hbd rv h => ?_⟩
  have hl : vs.length = ps.length := by rw [spM_len ar_runF h, hnp]
  obtain ⟨hid, η, st, fr, as, rel, rs, q⟩ := h
  refine LamX.run_ofS (CX := CXL L) lk hcd Sc hr e0 hbd rv hl fun hr' => ?_
  refine ⟨_, hb _ fr (wE E) ⟨rfl, rfl, rfl, rfl, hg, hr', takes_of rfl rfl rfl rfl, passes_of rfl, fun _ => rfl, rfl, rfl⟩, hid, η, st, _, rel, start_env rs hns, ?_⟩
  unfold runF at q
  rw [if_pos (by rw [rs.length, hl, hnp])] at q
  have e : as.length = np := by rw [rs.length, hl, hnp]
  rw [e]
  show ResS _ _ hid η st H (evSs G Nf fr irs (as.map some ++ List.replicate (ns - np) none) st)
  cases er : evSs G Nf fr irs (as.map some ++ List.replicate (ns - np) none) st with
  | bad => rw [er] at q; exact q.elim
  | exc x s2 =>
    rw [er] at q
    simp only at q
    cases x with
    | exc D fs =>
      intro d us' η' H' σ' r' g' e' h1 h2 h3
      exact exit_exc (C := cE W E) (σ := []) rel r' g' q h1 h2 h3
    | _ => split at q <;> exact q.elim
  | ok fl s2 =>
    rw [er] at q
    intro η' H' σ' r' g' e'
    cases fl with
    | nx => exact exit_ok (C := cE W E) (σ := []) rel r' g' q (by simp [Rep])
    | ret v => exact fun u ru => exit_ok (C := cE W E) (σ := []) rel r' g' q ru
    | brk => exact q.elim
    | cnt => exact q.elim
end M
end
section
set_option Elab.async false
set_option linter.all false
set_option maxRecDepth 10000
set_option autoImplicit false
/-! Sem24: side conditions of the text. -/
namespace M
open PySem PySem.Spec PyProof.Rows L2
/-- the names and the scope of a block -/
structure Ck where
  N : List Str
  sc : Scope
  df : Bool := true
  fns : List String := []
  kfs : List (String × List Str) := []
  cls : List String := []
  free : List String := []
  gvs : List String := []
def lc? : Expr → Bool
  | .ListComp _ _ _ _ => true
  | .SetComp _ _ _ _ => true
  | .DictComp _ _ _ _ _ => true
  | _ => false
theorem sw_no {e : Expr} {t : Option Expr} {l : Nat} {env : Env} (h : lc? e = false) : swapsWith e t l env = pure false := by
  cases e <;> first | rfl | cases h
theorem sw_other {e t : Expr} {l : Nat} {env : Env} (h : (match t with | .Name _ _ => false | _ => true) = true) : swapsWith e (some t) l env = pure false := by
  cases t <;> first | (cases e <;> rfl) | cases h
theorem sw_lc {elt : Expr} {gs : List Comprehension} {scope : Scope} {p : Pos} {x : Str} {px : Pos} {l : Nat} {env : Env} : swapsWith (.ListComp elt gs scope p) (some (.Name x px)) l env =
    pure (env.blockKind == .function && env.kindOf x == some .local && px.line == p.line && !(scope.names.any fun (n, k) => n == x && (k == .local || k == .cell))) := by
  unfold swapsWith
  rfl
def tup? : Expr → Bool
  | .Tuple _ _ _ => true
  | _ => false
theorem sst_no {ts : List Expr} {k : Nat} {p : Pos} {e : Expr} {env : Env} (h : tup? e = false) : swappedStores [.Tuple ts k p] e env = pure none := by
  cases e <;> first | rfl | cases h
theorem sst_other {t e : Expr} {env : Env} (h : (match t with | .Tuple _ _ _ => false | .List _ _ => false | _ => true) = true) : swappedStores [t] e env = pure none := by
  cases t <;> first | (cases e <;> rfl) | cases h
theorem swap2 {x y : Str} {px py pt pt2 : Pos} {kt k2 : Nat} {a b : Expr} {env : Env} (h1 : env.blockKind = .function) (hx : env.kindOf x = some .local) (hy : env.kindOf y = some .local) (hl : (py.line == px.line) = true) (hne : x ≠ y) (na : nst a = true) (nb : nst b = true)
    (hf : ([a, b].all (foldedForSure 8)) = false) (hc : ([a, b].all (constantsAlone 8)) = false) : swappedStores [.Tuple [.Name x px, .Name y py] kt pt] (.Tuple [a, b] k2 pt2) env = pure (some [x, y]) := by
  have e1 : ([a, b].any fun | .Starred .. => true | _ => false) = false := by
    cases a <;> first | (cases na; done) | (cases b <;> first | (cases nb; done) | rfl)
  have hyx : (y == x) = false := by simpa using Ne.symm hne
  have hxy : (x == y) = false := by simpa using hne
  have hl' : py.line = px.line := by simpa using hl
  unfold swappedStores
  simp only [List.length_cons, List.length_nil, h1, e1, hf, hc]
  simp [hx, hy, hl', List.eraseDups, List.eraseDupsBy, List.eraseDupsBy.loop, hyx, hxy, Expr.pos]
  intro h
  exfalso
  rcases h with h | h
  · cases a <;> first | (cases na; done) | cases h
  · cases b <;> first | (cases nb; done) | cases h
theorem blockKind_fn {env : Env} {sc : Scope} (h : env.scope = sc) (hk : sc.kind = .function) : env.blockKind = .function := by
  unfold Env.blockKind
  rw [h, hk]; rfl
theorem nofold {it : Expr} {env : Env} (h : (match it with | .Set _ _ _ => false | _ => true) = true) (x : Value) : foldedSetIterable it env x = pure x := by
  cases it <;> first | rfl | cases h
theorem isTrue_val {e : Expr} {env : Env} (h : (match e with | .UnaryOp .Not _ _ => false | .BoolOp _ _ _ => false | .IfExp _ _ _ _ => false | .Compare _ _ _ _ => false | _ => true) = true) (whole : Sem Value) :
    isTrue e env whole = (do let v ← whole; standAt e.pos; holding [v] (truthy v)) := by
  cases e <;> first
    | rfl
    | cases h
    | (rename_i op x p; cases op <;> first | rfl | cases h)
end M
end
section
set_option Elab.async false
set_option linter.all false
set_option maxRecDepth 10000
set_option autoImplicit false
/-! Sem25: calls by keywords; constants of the module. -/
namespace M
open PySem PySem.Spec PyProof.Rows L2
section
variable {C : Cfg} {α β : Type} {hid : Addr → Prop} {η : List Addr} {st : Sto} {H : Hp} {σ : L2.St} {ρ : Sl}
variable {X : Cx} {L : Ld} {k : Nat} {pos p : Pos}
def tVs (is : List Nat) : TA := fun σ H Q => ∃ us : List V, is.map (fun i => σ[i]?) = us.map (fun u => some (some u)) ∧ Q us H
/-- keywords that are names -/
inductive PKw (X : Cx) : List Keyword → List Str → List Nat → Prop where
  | nil : PKw X [] [] []
  | cons {kn y : Str} {i : Nat} {p kp : Pos} {kws ks is} (hi : X.N[i]? = some y) (hv : Vis X.env.scope y) (hd : (y == ("__debug__" : Str)) = false) (hcd : (y == ("__classdict__" : Str)) = false) (t : PKw X kws ks is) : PKw X (⟨some kn, .Name y p, kp⟩ :: kws) (kn :: ks) (i :: is)
theorem PKw.pk {kws : List Keyword} {ks : List Str} {is : List Nat} (h : PKw X kws ks is) : PK X kws (tVs is) ∧ (backToKw pos (keywordEach kws X.env)).all (·.1.isSome) = true ∧ (backToKw pos (keywordEach kws X.env)).filterMap (·.1) = ks ∧ (backToKw pos (keywordEach kws X.env)).any (·.1.isNone) = false := by
  induction h with
  | nil => exact ⟨⟨fun pos pins s σ H Q I h => by
      obtain ⟨us, e, q⟩ := h
      cases us with
      | nil => exact pk_nil.run pos pins s σ H Q I q
      | cons => simp at e⟩, rfl, rfl, rfl⟩
  | @cons kn y i p kp kws ks is hi hv hd hcd t ih =>
    obtain ⟨i1, i2, i3, i4⟩ := ih
    refine ⟨⟨fun pos pins s σ H Q I h => ?_⟩, ?_, ?_, ?_⟩
    · obtain ⟨us, e, q⟩ := h
      cases us with
      | nil => simp at e
      | cons u us =>
        simp only [List.map_cons, List.cons.injEq] at e
        exact (pk_cons (nm := some kn) (kpos := kp) (pe_var (pos := p) hi hv hd hcd) i1).run pos pins s σ H Q I ⟨u, e.1, us, e.2, q⟩
    · show (true && (backToKw pos (keywordEach kws X.env)).all (·.1.isSome)) = true
      rw [i2]; rfl
    · show (kn :: (backToKw pos (keywordEach kws X.env)).filterMap (·.1)) = kn :: ks
      rw [i3]
    · show (false || (backToKw pos (keywordEach kws X.env)).any (·.1.isNone)) = false
      rw [i4]; rfl
theorem vars_red : ∀ {js : List Nat} {K : List Va → List Addr → Sto → Hp → Prop}, Res C hid η st H σ (evEs C.G C.fr (js.map .var) ρ st) K → ∃ vs : List Va, js.map (fun j => ρ[j]?) = vs.map (fun v => some (some v)) ∧ ∀ η' H', Rel C.W hid η' st H' → Gr η st H η' st H' → K vs η' st H'
  | [], K, h => by rw [List.map_nil, evEs] at h; exact ⟨[], rfl, h⟩
  | j :: js, K, h => by
    rw [List.map_cons, evEs, evE] at h
    cases e : ρ[j]? with
    | none => rw [e] at h; exact h.elim
    | some o =>
      cases o with
      | none => rw [e] at h; exact h.elim
      | some v =>
        rw [e] at h
        have h : Res C hid η st H σ ((evEs C.G C.fr (js.map .var) ρ st).bind fun vs st => .ok (v :: vs) st) K := h
        obtain ⟨vs, h1, h2⟩ := vars_red (K := fun vs η' st' H' => Res C hid η' st' H' σ (.ok (v :: vs) st') K) h.bind
        exact ⟨v :: vs, by simp [e, h1], fun η' H' r g => h2 η' H' r g η' H' r Gr.refl⟩
theorem vars_env (env : EnvR C.W (Tb hid η st) η H ρ σ) : ∀ {is : List Nat} {vs : List Va}, is.map (fun j => ρ[j]?) = vs.map (fun v => some (some v)) → ∃ us : List V, is.map (fun i => σ[i]?) = us.map (fun u => some (some u)) ∧ Reps C.W (Tb hid η st) η H vs us
  | [], [], _ => ⟨[], rfl, by simp [Reps]⟩
  | [], _ :: _, h => by simp at h
  | _ :: _, [], h => by simp at h
  | i :: is, v :: vs, h => by
    simp only [List.map_cons, List.cons.injEq] at h
    obtain ⟨u, h1, h2⟩ := env.get i v h.1
    obtain ⟨us, h3, h4⟩ := vars_env env h.2
    exact ⟨u :: us, by simp [h1, h3], by simp only [Reps]; exact ⟨u, us, rfl, h2, h4⟩⟩
theorem se_callR {f : String} {F : Fs} {x : Str} {kws : List Keyword} {ks : List Str} {is : List Nat} (hL : ldOf X = L) (hr : Room k X.A) (hgd : X.A.guards = some []) (tk : Takes X C.wx) (hx : sS f = x) (hg : Gl X x) (cg : CallR' L C.W k f ks F) (hF : C.G.fn.lookup f = some F)
    (ha : PKw X kws ks is) (hdb : (x == ("__debug__" : Str)) = false) : PE X (.Call (.Name x p) [] kws pos) (tE C (.call f (is.reverse.map .var))) := by
  subst hx
  refine ⟨fun pins s σ H Q I h => ?_⟩
  obtain ⟨hid, η, st, ρ, rel, env, h⟩ := h
  rw [evE] at h
  obtain ⟨a, hm, hk, run⟩ := cg
  subst hL
  obtain ⟨p1, p2, p3, p4⟩ := ha.pk (pos := pos)
  obtain ⟨vs, hvs, q⟩ := vars_red h.bind
  have hvs' : is.map (fun j => ρ[j]?) = vs.reverse.map (fun v => some (some v)) := by
    rw [← List.reverse_inj, ← List.map_reverse, hvs, List.map_reverse, List.reverse_reverse]
  obtain ⟨us, h1, h2⟩ := vars_env env hvs'
  have q := q η H rel Gr.refl
  rw [hF] at q
  have sp : spM C.W F us.reverse H Q fun c d H' => C.wx c d σ H' := ⟨hid, η, st, C.fr ++ [ρ], vs, rel, by simpa using h2.rev, q.toE⟩
  have hul : us.length = ks.length := by
    have e1 := congrArg List.length h1
    simp only [List.length_map] at e1
    have : ∀ {kws : List Keyword} {ks : List Str} {is : List Nat}, PKw X kws ks is → ks.length = is.length := by
      intro kws ks is h
      induction h with
      | nil => rfl
      | cons _ _ _ _ _ ih => simp [ih]
    rw [← e1, this ha]
  refine wpAny_Call_Name_kw (ld_glob I hg hm ?_ hdb)
  refine PySem.W.callWith_KW0 (h₀ := X.base) I.ok.mod.kin hk p2 (thn (p1.run pos pins s σ H (fun vs' H' => vs' = us ∧ H' = H) I ⟨us, h1, rfl, rfl⟩) fun ws s1 ⟨vs', H1, I1, r, e1, e2⟩ => ⟨I1.kIn, ?_⟩) (by rw [p4]; rfl)
  subst e1 e2
  rw [p3]
  exact run X C.wx pins σ _ s1 Q ws _ rfl hr hgd tk I1 r (by rw [← r.length]; exact hul) sp
/-- a constant of the module -/
def GvOk (L : Ld) (C : Cfg) : Prop := ∀ x v, C.G.gv.lookup x = some v → ∃ u V0, L.mg (sS x) = some u ∧ RelV V0 u ∧ ∀ (T : Addr → Prop) (η : List Addr) (H : Hp), Rep C.W T η H v V0
theorem se_gl {x : String} {y : Str} (hL : ldOf X = L) (ok : GvOk L C) (hx : sS x = y) (hg : Gl X y) (hdb : (y == ("__debug__" : Str)) = false) : PE X (.Name y p) (tE C (.gl x)) := by
  subst hx hL
  refine ⟨fun pins s σ H Q I h => ?_⟩
  obtain ⟨hid, η, st, ρ, rel, env, h⟩ := h
  rw [evE] at h
  obtain ⟨v, ev, q⟩ := Res.ofO h
  obtain ⟨u, V0, h1, h2, h3⟩ := ok x v ev
  exact (pe_glob hg h1 h2 hdb).run pins s σ H Q I (q η H rel Gr.refl V0 (h3 _ _ _))
end
end M
end
section
set_option Elab.async false
set_option linter.all false
set_option maxRecDepth 10000
set_option autoImplicit false
/-! Sem26: the language's text against the program's, expressions. -/
namespace M
open PySem PySem.Spec PyProof.Rows L2
def kd (ck : Ck) (x : Str) : Option NameKind := ck.sc.names.lookup x
def visB (ck : Ck) (x : Str) : Bool := match kd ck x with
  | some .local | some .cell | some .free => true
  | _ => false
def locB (ck : Ck) (x : Str) : Bool := match kd ck x with
  | some .local => true
  | some .cell => ck.df
  | _ => false
def glB (ck : Ck) (x : Str) : Bool := match kd ck x with
  | some .globalImplicit => true
  | _ => false
def dbB (x : Str) : Bool := !(x == ("__debug__" : Str))
def ndB (x : Str) : Bool := dbB x && !(x == ("__classdict__" : Str))
def opB : Bop → Operator → Bool
  | .add, .Add | .sub, .Sub | .mul, .Mult | .fdiv, .FloorDiv | .mod, .Mod | .pow, .Pow => true
  | _, _ => false
def cpB : Cop → CmpOp → Bool
  | .eq, .Eq | .ne, .NotEq | .lt, .Lt | .le, .LtE | .gt, .Gt | .ge, .GtE | .isIn, .In | .notIn, .NotIn => true
  | _, _ => false
def constB : Expr → Va → Bool
  | .Constant .none _ _, .non => true
  | .Constant (.bool b) _ _, .bl c => decide (b = c)
  | .Constant (.int i) _ _, .int j => decide (i = j)
  | .Constant (.str x) _ _, .str s => decide (x = cS s)
  | _, _ => false
def one? : Expr → Option Expr
  | .BoolOp _ [a] _ => some a
  | _ => none
/-- a built-in's name: a function's, a type's -/
def biN : Bi → Option String
  | .len => some "len"
  | .int => some "int"
  | .tuple => some "tuple"
  | .list => some "list"
  | .repr => some "repr"
  | _ => none
def glN (ck : Ck) (x : Str) (s : String) : Bool := decide (sS s = x) && glB ck x && decide (s ∈ ck.free)
def clsB (ck : Ck) : Expr → Ty → Bool
  | .Name x _, .own D => decide (sS D = x) && glB ck x && decide (D ∈ ck.cls) && dbB x
  | .Name x _, t => glN ck x (tyOf t)
  | _, _ => false
def clssB (ck : Ck) : List Expr → List Ty → Bool
  | [], [] => true
  | e :: es, t :: ts => clsB ck e t && clssB ck es ts
  | _, _ => false
def kwB (ck : Ck) : List Keyword → List Str → List Nat → Bool
  | [], [], [] => true
  | ⟨some kn, .Name y _, _⟩ :: kws, k :: ks, i :: is => decide (kn = k) && decide (ck.N[i]? = some y) && visB ck y && ndB y && kwB ck kws ks is
  | _, _, _ => false
def unvar : List E → Option (List Nat)
  | [] => some []
  | .var i :: r => (unvar r).map (i :: ·)
  | _ :: _ => none
def nmsB (ck : Ck) : List Expr → List Nat → Bool
  | [], [] => true
  | .Name x _ :: es, i :: is => decide (ck.N[i]? = some x) && locB ck x && nmsB ck es is
  | _, _ => false
def tgB (ck : Ck) (e : Expr) (is : List Nat) : Bool → Bool
  | true => (match e, is with
    | .Name x _, [i] => decide (ck.N[i]? = some x) && locB ck x
    | _, _ => false)
  | false => (match e with
    | .Tuple es _ _ => nmsB ck es is
    | _ => false)
def ownOf (ck : Ck) (vs : List Nat) : List (Str × Nat) := vs.filterMap fun i => (ck.N[i]?).map fun x => (x, i)
def notSet : Expr → Bool
  | .Set _ _ _ => false
  | _ => true
def plainT : Expr → Bool
  | .UnaryOp .Not _ _ => false
  | .BoolOp _ _ _ => false
  | .IfExp _ _ _ _ => false
  | .Compare _ _ _ _ => false
  | _ => true
/-- the block of a comprehension -/
def blkOf (ck : Ck) (scope : Scope) : Ck := { ck with sc := relS scope ck.sc, df := false }
mutual
def chkE : Nat → Ck → Expr → E → Bool
  | 0, _, _, _ => false
  | n + 1, ck, e, ie => match one? e with
    | some a => chkE n ck a ie
    | none => match ie with
      | .var i => (match e with
        | .Name x _ => decide (ck.N[i]? = some x) && visB ck x && ndB x
        | _ => false)
      | .con v => constB e v
      | .gl x => (match e with
        | .Name y _ => decide (sS x = y) && glB ck y && dbB y
        | _ => false)
      | .bin op ia ib => (match e with
        | .BinOp a o b _ => opB op o && chkE n ck a ia && chkE n ck b ib
        | _ => false)
      | .neg ia => (match e with
        | .UnaryOp .USub a _ => chkE n ck a ia
        | _ => false)
      | .no ia => (match e with
        | .UnaryOp .Not a _ => chkE n ck a ia
        | _ => false)
      | .cmp op ia ib => (match e with
        | .Compare a [o] [b] _ => cpB op o && !behindInMarks o b && chkE n ck a ia && chkE n ck b ib
        | _ => false)
      | .isC ng ia v => (match e with
        | .Compare a [o] [.Constant c _ _] _ => (match o, ng, c, v with
          | .Is, false, .none, .non => chkE n ck a ia
          | .IsNot, true, .none, .non => chkE n ck a ia
          | .Is, false, .bool x, .bl y => decide (x = y) && chkE n ck a ia
          | .IsNot, true, .bool x, .bl y => decide (x = y) && chkE n ck a ia
          | _, _, _, _ => false)
        | _ => false)
      | .chn o1 o2 ia ib ic => (match e with
        | .Compare a [p, q] [b, c] _ => cpB o1 p && cpB o2 q && !lastMarks [p, q] [b, c] && chkE n ck a ia && chkE n ck b ib && chkE n ck c ic
        | _ => false)
      | .and ia ib => (match e with
        | .BoolOp .And (a :: b :: r) p => chkE n ck a ia && chkE n ck (.BoolOp .And (b :: r) p) ib
        | _ => false)
      | .or ia ib => (match e with
        | .BoolOp .Or (a :: b :: r) p => chkE n ck a ia && chkE n ck (.BoolOp .Or (b :: r) p) ib
        | _ => false)
      | .ite ic ia ib => (match e with
        | .IfExp c a b _ => chkT n ck c ic && chkE n ck a ia && chkE n ck b ib
        | _ => false)
      | .idx ia ii => (match e with
        | .Subscript a i _ => plainIx i && chkE n ck a ia && chkE n ck i ii
        | _ => false)
      | .sl ia lo hi => (match e with
        | .Subscript a (.Slice l h none _) _ => chkE n ck a ia && chkO n ck l lo && chkO n ck h hi
        | _ => false)
      | .rev ia => (match e with
        | .Subscript a (.Slice none none (some (.UnaryOp .USub (.Constant (.int 1) _ _) _)) _) _ => chkE n ck a ia
        | _ => false)
      | .attr ia f => (match e with
        | .Attribute a x _ => decide (sS f = x) && nsup a && chkE n ck a ia
        | _ => false)
      | .tup ies => (match e with
        | .Tuple es _ _ => decide (ies.length ≤ 1000) && chkEs n ck es ies
        | _ => false)
      | .lst _ ies => (match e with
        | .List es _ => decide (ies.length ≤ 1000) && chkEs n ck es ies
        | _ => false)
      | .dct _ ks ies => (match e with
        | .Dict es vs _ => (es.isEmpty && vs.isEmpty && ks.isEmpty && ies.isEmpty) || (!es.isEmpty && ks.all isKey && decide (es.length ≤ 15) && chkK n ck es vs ks ies)
        | _ => false)
      | .comp _ elt is one vs it cond => (match e with
        | .ListComp el [⟨tg, iter, ifs, 0⟩] scope _ => blkC ck.N ck.sc scope (ownOf ck vs) && decide ((ownOf ck vs).map (·.2) = vs) && is.all (fun i => decide (i ∈ vs)) && notSet iter && chkI n ck iter it && tgB (blkOf ck scope) tg is one && chkC n (blkOf ck scope) ifs cond && chkE n (blkOf ck scope) el elt
        | _ => false)
      | .call f ies => (match e with
        | .Call (.Name x _) es [] _ => decide (sS f = x) && glB ck x && dbB x && decide (f ∈ ck.fns) && chkEs n ck es ies
        | .Call (.Name x _) [] kws _ => decide (sS f = x) && glB ck x && dbB x && (match ck.kfs.lookup f, unvar ies with
          | some ks, some is => kwB ck kws ks is.reverse
          | _, _ => false)
        | _ => false)
      | .bi b ies => (match e with
        | .Call (.Name x _) (a :: es) [] _ => (match biN b with
          | some s => glN ck x s
          | none => false) && chkEs n ck (a :: es) ies
        | _ => false)
      | .mk .list ia => (match e with
        | .Call (.Name x _) [a] [] _ => glN ck x "list" && nst a && chkE n ck a ia
        | _ => false)
      | .isin ia ts => (match e with
        | .Call (.Name x _) [a, .Tuple cs _ _] [] _ => glN ck x "isinstance" && nst a && chkE n ck a ia && clssB ck cs ts && !ts.isEmpty && decide (ts.length ≤ 1000)
        | .Call (.Name x _) [a, c] [] _ => (match ts with
          | [t] => glN ck x "isinstance" && nst a && chkE n ck a ia && clsB ck c t
          | _ => false)
        | _ => false)
      | .mt .append ia [ib] => (match e with
        | .Call (.Attribute a x ap) [b] [] p => decide (x = ("append" : Str)) && nsup a && nst b && (ap.endLine == p.line) && chkE n ck a ia && chkE n ck b ib
        | _ => false)
      | _ => false
def chkEs : Nat → Ck → List Expr → List E → Bool
  | 0, _, _, _ => false
  | n + 1, ck, es, ies => match es, ies with
    | [], [] => true
    | e :: es, ie :: ies => nst e && chkE n ck e ie && chkEs n ck es ies
    | _, _ => false
def chkK : Nat → Ck → List (Option Expr) → List Expr → List Va → List E → Bool
  | 0, _, _, _, _, _ => false
  | n + 1, ck, es, vs, ks, ies => match es, vs, ks, ies with
    | [], [], [], [] => true
    | some e :: es, v :: vs, k :: ks, ie :: ies => conK e k && chkE n ck v ie && chkK n ck es vs ks ies
    | _, _, _, _ => false
def chkO : Nat → Ck → Option Expr → Option E → Bool
  | 0, _, _, _ => false
  | n + 1, ck, o, io => match o, io with
    | none, none => true
    | some e, some ie => chkE n ck e ie
    | _, _ => false
def chkC : Nat → Ck → List Expr → Option E → Bool
  | 0, _, _, _ => false
  | n + 1, ck, es, io => match es, io with
    | [], none => true
    | [e], some ie => chkT n ck e ie
    | _, _ => false
/-- a test -/
def chkT : Nat → Ck → Expr → E → Bool
  | 0, _, _, _ => false
  | n + 1, ck, e, ie => match ie with
    | .no ia => (match e with
      | .UnaryOp .Not a _ => chkT n ck a ia
      | _ => false)
    | .cmp op ia ib => (match e with
      | .Compare a [o] [b] _ => cpB op o && !behindInMarks o b && chkE n ck a ia && chkE n ck b ib
      | _ => false)
    | .isC ng ia v => (match e with
      | .Compare a [o] [.Constant c _ _] _ => (match o, ng, c, v with
        | .Is, false, .none, .non => chkE n ck a ia
        | .IsNot, true, .none, .non => chkE n ck a ia
        | .Is, false, .bool x, .bl y => decide (x = y) && chkE n ck a ia
        | .IsNot, true, .bool x, .bl y => decide (x = y) && chkE n ck a ia
        | _, _, _, _ => false)
      | _ => false)
    | .chn o1 o2 ia ib ic => (match e with
      | .Compare a [p, q] [b, c] _ => cpB o1 p && cpB o2 q && !lastMarks [p, q] [b, c] && chkE n ck a ia && chkE n ck b ib && chkE n ck c ic
      | _ => false)
    | .and _ _ => chkW n ck e ie
    | .or _ _ => chkW n ck e ie
    | ie => plainT e && chkE n ck e ie
def chkW : Nat → Ck → Expr → E → Bool
  | 0, _, _, _ => false
  | n + 1, ck, e, ie => match e with
    | .BoolOp _ [a] _ => chkT n ck a ie
    | .BoolOp .And (a :: b :: r) p => (match ie with
      | .and ia ib => chkT n ck a ia && chkW n ck (.BoolOp .And (b :: r) p) ib
      | _ => false)
    | .BoolOp .Or (a :: b :: r) p => (match ie with
      | .or ia ib => chkT n ck a ia && chkW n ck (.BoolOp .Or (b :: r) p) ib
      | _ => false)
    | _ => false
def chkI : Nat → Ck → Expr → E → Bool
  | 0, _, _, _ => false
  | n + 1, ck, e, ie => match ie with
    | .range1 ia => (match e with
      | .Call (.Name x _) [a] [] _ => glN ck x "range" && nst a && chkE n ck a ia
      | _ => false)
    | .range2 ia ib => (match e with
      | .Call (.Name x _) [a, b] [] _ => glN ck x "range" && nst a && nst b && chkE n ck a ia && chkE n ck b ib
      | _ => false)
    | ie => chkE n ck e ie
end
end M
end
section
set_option Elab.async false
set_option linter.all false
set_option maxRecDepth 10000
set_option maxHeartbeats 1000000
set_option autoImplicit false
/-! Sem27: the check is sound, expressions. -/
namespace M
open PySem PySem.Spec PyProof.Rows L2
/-- what the check takes from the module -/
structure Gok (L : Ld) (k : Nat) (C : Cfg) (ck : Ck) : Prop where
  fns : ∀ f ∈ ck.fns, ∃ F, C.G.fn.lookup f = some F ∧ CallG L C.W k f F
  kfs : ∀ f ks, ck.kfs.lookup f = some ks → ∃ F, C.G.fn.lookup f = some F ∧ CallR' L C.W k f ks F
  cls : ∀ c ∈ ck.cls, L.mg (sS c) = some (.ref (C.W.adr c))
  free : ∀ x ∈ ck.free, L.mg (sS x) = none
  gv : GvOk L C
  at_ : AtOk C
  idn : IdnOk C
  kit : KitOk C
  sym : symK L.K = true
  K : L.K = C.W.K
structure Gd (L : Ld) (k : Nat) (C : Cfg) (ck : Ck) (X : Cx) : Prop where
  ld : ldOf X = L
  N : X.N = ck.N
  sc : X.env.scope = ck.sc
  nd : ck.N.Nodup
  calm : X.calm = true
  gd : X.A.guards = some []
  room : Room k X.A
  tk : Takes X C.wx
  fn : ck.df = true → ∀ x, X.fn x = true
  G : Gok L k C ck
section
variable {L : Ld} {k : Nat} {C : Cfg} {ck : Ck} {X : Cx}
theorem Gd.K (g : Gd L k C ck X) : X.K = C.W.K := by rw [← g.G.K, ← g.ld]
theorem Gd.hu (g : Gd L k C ck X) : X.A.units + 64 < cLine := g.room.units
theorem Gd.mg (g : Gd L k C ck X) (x : Str) : X.mg x = L.mg x := by rw [← g.ld]
theorem Gok.calm (g : Gok L k C ck) {sc : Scope} : Gok L k C.calm { ck with sc := sc, df := false } := ⟨g.fns, g.kfs, g.cls, g.free, g.gv, g.at_, g.idn, g.kit, g.sym, g.K⟩
/-- the block of a comprehension -/
theorem Gd.blk (g : Gd L k C ck X) {scope : Scope} (s : Shared) (H : Hp) (Ca : Addr) (cl : List (Str × Addr)) (fp : List Addr) : Gd L k C.calm (blkOf ck scope) (X.blk s H scope (compEnvC scope cl Ca X.env) fp) := by
  refine ⟨g.ld, g.N, ?_, g.nd, g.calm, g.gd, g.room, LamX.takes0, fun z => (by cases z), g.G.calm⟩
  show relabel scope X.env = relS scope ck.sc
  rw [← g.sc]; rfl
theorem Gd.vis (g : Gd L k C ck X) {x : Str} (h : visB ck x = true) : Vis X.env.scope x := by
  unfold visB kd at h
  rw [← g.sc] at h
  split at h <;> first | exact .inl (by assumption) | exact .inr (.inl (by assumption)) | exact .inr (.inr (by assumption)) | cases h
theorem Gd.loc (g : Gd L k C ck X) {x : Str} (h : locB ck x = true) : Loc X.env.scope x ∧ (X.fn x = true ∨ X.env.scope.names.lookup x = some .local) := by
  unfold locB kd at h
  rw [← g.sc] at h
  split at h
  · rename_i e; exact ⟨.inl e, .inr e⟩
  · rename_i e; exact ⟨.inr e, .inl (g.fn h x)⟩
  · cases h
theorem Gd.gl (g : Gd L k C ck X) {x : Str} (h : glB ck x = true) : Gl X x := by
  unfold glB kd at h
  rw [← g.sc] at h
  split at h
  · assumption
  · cases h
theorem dbB_ok {x : Str} (h : dbB x = true) : (x == ("__debug__" : Str)) = false := by simpa [dbB] using h
theorem ndB_ok {x : Str} (h : ndB x = true) : (x == ("__debug__" : Str)) = false ∧ (x == ("__classdict__" : Str)) = false := by
  unfold ndB at h
  rw [Bool.and_eq_true] at h
  exact ⟨dbB_ok h.1, by simpa using h.2⟩
theorem Gd.glN (g : Gd L k C ck X) {x : Str} {s : String} (h : glN ck x s = true) : sS s = x ∧ Gl X x ∧ X.mg x = none := by
  unfold M.glN at h
  simp only [Bool.and_eq_true, decide_eq_true_eq] at h
  obtain ⟨⟨h1, h2⟩, h3⟩ := h
  subst h1
  exact ⟨rfl, g.gl h2, by rw [g.mg]; exact g.G.free _ h3⟩
theorem one?_ok {e a : Expr} (h : one? e = some a) : ∃ op p, e = .BoolOp op [a] p := by
  unfold one? at h
  split at h
  · cases h; exact ⟨_, _, rfl⟩
  · cases h
theorem Gd.bin (g : Gd L k C ck X) {op : Bop} {o : Operator} (h : opB op o = true) : ∃ r, OpR X (binaryOp o) r ∧ BinR C op r := by
  cases op with
  | add => cases o <;> first | (cases h; done) | exact ⟨_, op_add4, br_add g.K⟩
  | sub => cases o <;> first | (cases h; done) | exact ⟨_, op_sub, br_sub⟩
  | mul => cases o <;> first | (cases h; done) | exact ⟨_, op_mul4, br_mul g.K⟩
  | fdiv => cases o <;> first | (cases h; done) | exact ⟨_, op_div2, br_fdiv⟩
  | mod => cases o <;> first | (cases h; done) | exact ⟨_, op_mod2, br_mod⟩
  | pow => cases o <;> first | (cases h; done) | exact ⟨_, op_pow, br_pow⟩
theorem Gd.cmp (g : Gd L k C ck X) {op : Cop} {o : CmpOp} (h : cpB op o = true) : ∃ r, OpR X (compareOp o) r ∧ CmpR C op r := by
  cases op with
  | eq => cases o <;> first | (cases h; done) | exact ⟨_, op_eq2 g.K g.hu, cr_eq g.G.idn⟩
  | ne => cases o <;> first | (cases h; done) | exact ⟨_, op_ne2 g.K g.hu, cr_ne g.G.idn⟩
  | lt => cases o <;> first | (cases h; done) | exact ⟨_, op_lt, cr_lt⟩
  | le => cases o <;> first | (cases h; done) | exact ⟨_, op_le, cr_le⟩
  | gt => cases o <;> first | (cases h; done) | exact ⟨_, op_gt, cr_gt⟩
  | ge => cases o <;> first | (cases h; done) | exact ⟨_, op_ge, cr_ge⟩
  | isIn => cases o <;> first | (cases h; done) | exact ⟨_, op_in3 g.K g.hu, cr_in⟩
  | notIn => cases o <;> first | (cases h; done) | exact ⟨_, op_notIn3 g.K g.hu, cr_notIn⟩
theorem se_con {e : Expr} {v : Va} (h : constB e v = true) : PE X e (tE C (.con v)) := by
  unfold constB at h
  split at h
  · exact se_non
  · rw [of_decide_eq_true h]; exact se_bl
  · rw [of_decide_eq_true h]; exact se_int
  · exact se_str (of_decide_eq_true h).symm
  · cases h
theorem Gd.cl (g : Gd L k C ck X) {e : Expr} {t : Ty} (h : clsB ck e t = true) : PCl X C.W e t := by
  unfold clsB at h
  split at h
  · rename_i x p D
    simp only [Bool.and_eq_true, decide_eq_true_eq] at h
    obtain ⟨⟨⟨h1, h2⟩, h3⟩, h4⟩ := h
    subst h1
    exact ⟨pe_glob (g.gl h2) (by rw [g.mg]; exact g.G.cls D h3) rfl (dbB_ok h4), rfl⟩
  · rename_i x p ht
    obtain ⟨h1, h2, h3⟩ := g.glN h
    subst h1
    refine ⟨?_, rfl⟩
    cases t with
    | own D => exact absurd rfl (ht D)
    | int => exact pe_bltn h2 h3 (by rfl) rfl (by decide) (by decide)
    | bool => exact pe_bltn h2 h3 (by rfl) rfl (by decide) (by decide)
    | str => exact pe_bltn h2 h3 (by rfl) rfl (by decide) (by decide)
    | tuple => exact pe_bltn h2 h3 (by rfl) rfl (by decide) (by decide)
    | list => exact pe_bltn h2 h3 (by rfl) rfl (by decide) (by decide)
  · cases h
theorem Gd.clss (g : Gd L k C ck X) : ∀ {es : List Expr} {ts : List Ty}, clssB ck es ts = true → PCls X C.W es ts
  | [], [], _ => .nil
  | [], _ :: _, h => by cases h
  | _ :: _, [], h => by cases h
  | e :: es, t :: ts, h => by
    simp only [clssB, Bool.and_eq_true] at h
    exact .cons (g.cl h.1) (g.clss h.2)
theorem Gd.kw (g : Gd L k C ck X) : ∀ {kws : List Keyword} {ks : List Str} {is : List Nat}, kwB ck kws ks is = true → PKw X kws ks is
  | [], [], [], _ => .nil
  | ⟨some kn, .Name y p, kp⟩ :: kws, k' :: ks, i :: is, h => by
    simp only [kwB, Bool.and_eq_true, decide_eq_true_eq] at h
    obtain ⟨⟨⟨⟨h1, h2⟩, h3⟩, h4⟩, h5⟩ := h
    subst h1
    exact .cons (by rw [g.N]; exact h2) (g.vis h3) (ndB_ok h4).1 (ndB_ok h4).2 (g.kw h5)
  | [], [], _ :: _, h => by cases h
  | [], _ :: _, _, h => by cases h
  | ⟨none, _, _⟩ :: _, _, _, h => by simp [kwB] at h
  | ⟨some _, e, _⟩ :: _, [], _, h => by cases e <;> cases h
  | ⟨some _, e, _⟩ :: _, _ :: _, [], h => by cases e <;> cases h
  | ⟨some kn, e, kp⟩ :: kws, k' :: ks, i :: is, h => by
    cases e with
    | Name y p =>
      simp only [kwB, Bool.and_eq_true, decide_eq_true_eq] at h
      obtain ⟨⟨⟨⟨h1, h2⟩, h3⟩, h4⟩, h5⟩ := h
      subst h1
      exact .cons (by rw [g.N]; exact h2) (g.vis h3) (ndB_ok h4).1 (ndB_ok h4).2 (g.kw h5)
    | _ => cases h
theorem unvar_ok : ∀ {es : List E} {is : List Nat}, unvar es = some is → es = is.map .var
  | [], is, h => by cases h; rfl
  | e :: es, is, h => by
    cases e with
    | var i =>
      simp only [unvar] at h
      obtain ⟨js, h1, rfl⟩ := Option.map_eq_some_iff.mp h
      rw [unvar_ok h1]; rfl
    | _ => cases h
theorem Gd.nms (g : Gd L k C ck X) : ∀ {es : List Expr} {is : List Nat}, nmsB ck es is = true → PNm X es is
  | [], [], _ => .nil
  | [], _ :: _, h => by cases h
  | e :: es, is, h => by
    cases e with
    | Name x p =>
      cases is with
      | nil => cases h
      | cons i is =>
        simp only [nmsB, Bool.and_eq_true, decide_eq_true_eq] at h
        obtain ⟨⟨h1, h2⟩, h3⟩ := h
        exact .cons (by rw [g.N]; exact h1) (g.loc h2).1 (g.loc h2).2 (g.nms h3)
    | _ => cases is <;> cases h
theorem Gd.tg (g : Gd L k C ck X) {e : Expr} {is : List Nat} {one : Bool} (h : tgB ck e is one = true) : PG X e (gB X.K is one) := by
  have nd : X.N.Nodup := by rw [g.N]; exact g.nd
  cases one with
  | true =>
    simp only [tgB] at h
    split at h
    · rw [Bool.and_eq_true, decide_eq_true_eq] at h
      exact pb_one nd (by rw [g.N]; exact h.1) (g.loc h.2).1 (g.loc h.2).2
    · cases h
  | false =>
    simp only [tgB] at h
    split at h
    · exact pb_tup g.calm nd (g.nms h)
    · cases h
theorem st_chn {a b c : Expr} {ia ib ic : E} {o o' : CmpOp} {op op' : Cop} {r r' : R2} {pos : Pos} (ha : PE X a (tE C ia)) (hb : PE X b (tE C ib)) (hc : PE X c (tE C ic)) (ho : OpR X (compareOp o) r) (ho' : OpR X (compareOp o') r') (cr : CmpR C op r) (cr' : CmpR C op' r') (hm : lastMarks [o, o'] [b, c] = false) :
    PT X (.Compare a [o, o'] [b, c] pos) (tT C (.chn op op' ia ib ic)) := by
  refine pt_weak (pt_chain ho ho' ha hb hc hm) fun σ H Q h => ?_
  obtain ⟨hid, η, st, ρ, rel, env, h⟩ := h
  refine chn_red rel env cr cr' h.bind fun t η' st' H' r' q => ⟨t, rfl, ?_⟩
  have q : Res C hid η' st' H' σ (R.of (truth (.bl t)) st') _ := q
  exact q η' H' r' Gr.refl
end
structure Snd (n : Nat) : Prop where
  E : ∀ {L k C ck X e ie}, chkE n ck e ie = true → Gd L k C ck X → PE X e (tE C ie)
  Es : ∀ {L k C ck X es ies}, chkEs n ck es ies = true → Gd L k C ck X → PA X es (tEs C ies) ∧ es.all nst = true ∧ (es = [] → ies = [])
  K : ∀ {L k C ck X es vs ks ies}, chkK n ck es vs ks ies = true → Gd L k C ck X → PKV X C es vs ks ies
  O : ∀ {L k C ck X o io}, chkO n ck o io = true → Gd L k C ck X → PO X o (tOpt C io)
  C : ∀ {L k C ck X es io}, chkC n ck es io = true → Gd L k C ck X → PTs X es (tC0 C io)
  T : ∀ {L k C ck X e ie}, chkT n ck e ie = true → Gd L k C ck X → PT X e (tT C ie)
  W : ∀ {L k C ck X e ie}, chkW n ck e ie = true → Gd L k C ck X → PW X e (tT C ie)
  I : ∀ {L k C ck X e ie}, chkI n ck e ie = true → Gd L k C ck X → ∀ tg, PI X tg e (tI C ie)
end M
end
section
set_option Elab.async false
set_option linter.all false
set_option maxRecDepth 10000
set_option maxHeartbeats 2000000
set_option autoImplicit false
/-! Sem28: the check is sound, expressions, the induction. -/
namespace M
open PySem PySem.Spec PyProof.Rows L2
theorem ownOf_ix {ck : Ck} {vs : List Nat} : ∀ p ∈ ownOf ck vs, ck.N[p.2]? = some p.1 := fun p hp => by
  unfold ownOf at hp
  obtain ⟨i, _, h⟩ := List.mem_filterMap.mp hp
  obtain ⟨x, hx, rfl⟩ := Option.map_eq_some_iff.mp h
  exact hx
theorem snd_E {n : Nat} (ih : Snd n) {L : Ld} {k : Nat} {C : Cfg} {ck : Ck} {X : Cx} {e : Expr} {ie : E} (h : chkE (n + 1) ck e ie = true) (g : Gd L k C ck X) : PE X e (tE C ie) := by
  have nd : X.N.Nodup := by rw [g.N]; exact g.nd
  rw [chkE.eq_def] at h
  simp only at h
  cases eo : one? e with
  | some a =>
    rw [eo] at h
    obtain ⟨op, p, rfl⟩ := one?_ok eo
    exact pe_one (ih.E h g)
  | none =>
    rw [eo] at h
    simp only at h
    cases ie with
    | var i =>
      simp only at h
      split at h
      · simp only [Bool.and_eq_true, decide_eq_true_eq] at h
        obtain ⟨⟨h1, h2⟩, h3⟩ := h
        exact se_var (by rw [g.N]; exact h1) (g.vis h2) (ndB_ok h3).1 (ndB_ok h3).2
      · cases h
    | con v => exact se_con h
    | gl x =>
      simp only at h
      split at h
      · simp only [Bool.and_eq_true, decide_eq_true_eq] at h
        obtain ⟨⟨h1, h2⟩, h3⟩ := h
        exact se_gl g.ld g.G.gv h1 (g.gl h2) (dbB_ok h3)
      · cases h
    | bin op ia ib =>
      simp only at h
      split at h
      · simp only [Bool.and_eq_true] at h
        obtain ⟨⟨h1, h2⟩, h3⟩ := h
        obtain ⟨r, ho, br⟩ := g.bin h1
        exact se_bin (ih.E h2 g) (ih.E h3 g) ho br
      · cases h
    | neg ia =>
      simp only at h
      split at h
      · exact se_neg (ih.E h g)
      · cases h
    | no ia =>
      simp only at h
      split at h
      · exact se_no (ih.E h g)
      · cases h
    | cmp op ia ib =>
      simp only at h
      split at h
      · simp only [Bool.and_eq_true, Bool.not_eq_true'] at h
        obtain ⟨⟨⟨h1, h2⟩, h3⟩, h4⟩ := h
        obtain ⟨r, ho, cr⟩ := g.cmp h1
        exact se_cmp (ih.E h3 g) (ih.E h4 g) ho cr h2
      · cases h
    | isC ng ia v =>
      simp only at h
      split at h
      · split at h
        · exact se_isN (ih.E h g)
        · exact se_notN (ih.E h g)
        · rw [Bool.and_eq_true, decide_eq_true_eq] at h
          obtain ⟨rfl, h⟩ := h
          exact se_isB (ih.E h g)
        · rw [Bool.and_eq_true, decide_eq_true_eq] at h
          obtain ⟨rfl, h⟩ := h
          exact se_notB (ih.E h g)
        · cases h
      · cases h
    | chn o1 o2 ia ib ic =>
      simp only at h
      split at h
      · simp only [Bool.and_eq_true, Bool.not_eq_true'] at h
        obtain ⟨⟨⟨⟨⟨h1, h2⟩, h3⟩, h4⟩, h5⟩, h6⟩ := h
        obtain ⟨r, ho, cr⟩ := g.cmp h1
        obtain ⟨r', ho', cr'⟩ := g.cmp h2
        exact se_chn (ih.E h4 g) (ih.E h5 g) (ih.E h6 g) ho ho' cr cr' (pe_chain ho ho' (ih.E h4 g) (ih.E h5 g) (ih.E h6 g) h3)
      · cases h
    | and ia ib =>
      simp only at h
      split at h
      · rw [Bool.and_eq_true] at h
        exact se_and (ih.E h.1 g) (ih.E h.2 g)
      · cases h
    | or ia ib =>
      simp only at h
      split at h
      · rw [Bool.and_eq_true] at h
        exact se_or (ih.E h.1 g) (ih.E h.2 g)
      · cases h
    | ite ic ia ib =>
      simp only at h
      split at h
      · simp only [Bool.and_eq_true] at h
        exact se_ite (ih.T h.1.1 g) (ih.E h.1.2 g) (ih.E h.2 g)
      · cases h
    | idx ia ii =>
      simp only at h
      split at h
      · simp only [Bool.and_eq_true] at h
        exact se_idx g.K g.hu (ih.E h.1.2 g) (ih.E h.2 g) h.1.1
      · cases h
    | sl ia lo hi =>
      simp only at h
      split at h
      · simp only [Bool.and_eq_true] at h
        exact se_slice g.K (ih.E h.1.1 g) (ih.O h.1.2 g) (ih.O h.2 g)
      · cases h
    | rev ia =>
      simp only at h
      split at h
      · exact se_rev g.K (ih.E h g)
      · cases h
    | attr ia f =>
      simp only at h
      split at h
      · simp only [Bool.and_eq_true, decide_eq_true_eq] at h
        exact se_attr h.1.1 g.G.at_ g.K (ih.E h.2 g) h.1.2
      · cases h
    | tup ies =>
      simp only at h
      split at h
      · simp only [Bool.and_eq_true, decide_eq_true_eq] at h
        exact se_tup (ih.Es h.2 g).1 h.1
      · cases h
    | lst m ies =>
      simp only at h
      split at h
      · simp only [Bool.and_eq_true, decide_eq_true_eq] at h
        exact se_lst (ih.Es h.2 g).1 h.1
      · cases h
    | dct m ks ies =>
      simp only at h
      split at h
      · rw [Bool.or_eq_true] at h
        rcases h with h | h
        · simp only [Bool.and_eq_true, List.isEmpty_iff] at h
          obtain ⟨⟨⟨rfl, rfl⟩, rfl⟩, rfl⟩ := h
          exact se_dct0
        · simp only [Bool.and_eq_true, Bool.not_eq_true', decide_eq_true_eq] at h
          obtain ⟨⟨⟨h1, h2⟩, h3⟩, h4⟩ := h
          exact se_dct (ih.K h4 g) (by rintro rfl; simp at h1) h2 h3
      · cases h
    | comp m elt is one vs it cond =>
      simp only at h
      split at h
      · simp only [Bool.and_eq_true, decide_eq_true_eq] at h
        obtain ⟨⟨⟨⟨⟨⟨⟨h1, h2⟩, h3⟩, h4⟩, h5⟩, h6⟩, h7⟩, h8⟩ := h
        rw [← h2]
        refine se_lc g.calm nd g.K (ih.I h5 g _) (by have := blkOk_by h1; rw [g.N, g.sc]; exact this) (fun i hi => ?_) (fun s H Ca cl fp => ?_) (fun s H Ca cl fp => ih.C h7 (g.blk s H Ca cl fp)) (fun s H Ca cl fp => ih.E h8 (g.blk s H Ca cl fp)) (nofold h4)
        · rw [h2]
          rw [List.all_eq_true] at h3
          exact of_decide_eq_true (h3 i hi)
        · exact (g.blk s H Ca cl fp).tg h6
      · cases h
    | call f ies =>
      simp only at h
      split at h
      · simp only [Bool.and_eq_true, decide_eq_true_eq] at h
        obtain ⟨⟨⟨⟨h1, h2⟩, h3⟩, h4⟩, h5⟩ := h
        obtain ⟨F, hF, cg⟩ := g.G.fns f h4
        obtain ⟨q1, q2, q3⟩ := ih.Es h5 g
        exact se_call g.ld g.room g.gd g.tk h1 (g.gl h2) cg hF q1 q2 q3 (dbB_ok h3)
      · simp only [Bool.and_eq_true, decide_eq_true_eq] at h
        obtain ⟨⟨⟨h1, h2⟩, h3⟩, h4⟩ := h
        split at h4
        · rename_i ks is e1 e2
          obtain ⟨F, hF, cg⟩ := g.G.kfs f ks e1
          rw [unvar_ok e2, show is.map E.var = is.reverse.reverse.map E.var by rw [List.reverse_reverse]]
          exact se_callR g.ld g.room g.gd g.tk h1 (g.gl h2) cg hF (g.kw h4) (dbB_ok h3)
        · cases h4
      · cases h
    | bi b ies =>
      simp only at h
      split at h
      · rw [Bool.and_eq_true] at h
        obtain ⟨h1, h2⟩ := h
        obtain ⟨q1, q2, q3⟩ := ih.Es h2 g
        cases b <;> first
          | (simp [biN] at h1; done)
          | skip
        · obtain ⟨rfl, h4, h5⟩ := g.glN h1
          exact se_biB (C := C) call_len2 (br_len g.K) h4 h5 (by rfl) q1 q2 (by decide) (by decide)
        · obtain ⟨rfl, h4, h5⟩ := g.glN h1
          exact se_biT (C := C) call_tuple_of (br_tuple g.K) h4 h5 (by rfl) q1 q2 (by decide) (by decide)
        · obtain ⟨rfl, h4, h5⟩ := g.glN h1
          exact se_biT (C := C) call_list_of (br_list g.K) h4 h5 (by rfl) q1 q2 (by decide) (by decide)
        · obtain ⟨rfl, h4, h5⟩ := g.glN h1
          refine se_biT (C := C) (fun pins s σ H xs us Q I r h => ?_) br_int h4 h5 (by rfl) q1 q2 (by decide) (by decide)
          rcases h with h | h
          · exact call_int1 pins s σ H xs us Q I r h
          · exact call_int_str pins s σ H xs us Q I r h
        · obtain ⟨rfl, h4, h5⟩ := g.glN h1
          exact se_biB (C := C) (call_repr g.K (by have := g.G.sym; rw [← g.ld] at this; exact this) g.gd g.hu) br_repr h4 h5 (by rfl) q1 q2 (by decide) (by decide)
      · cases h
    | mk b ia =>
      cases b <;> first
        | (simp only at h; cases h; done)
        | skip
      simp only at h
      split at h
      · simp only [Bool.and_eq_true] at h
        obtain ⟨⟨h1, h2⟩, h3⟩ := h
        obtain ⟨rfl, h4, h5⟩ := g.glN h1
        exact se_mkList g.K h4 h5 (ih.E h3 g) h2
      · cases h
    | isin ia ts =>
      simp only at h
      split at h
      · simp only [Bool.and_eq_true, Bool.not_eq_true', decide_eq_true_eq] at h
        obtain ⟨⟨⟨⟨⟨h1, h2⟩, h3⟩, h4⟩, h5⟩, h6⟩ := h
        obtain ⟨rfl, h7, h8⟩ := g.glN h1
        exact se_isinT g.K g.G.kit h7 h8 (ih.E h3 g) h2 (g.clss h4) (by rintro rfl; simp at h5) h6
      · split at h
        · simp only [Bool.and_eq_true] at h
          obtain ⟨⟨⟨h1, h2⟩, h3⟩, h4⟩ := h
          obtain ⟨rfl, h7, h8⟩ := g.glN h1
          exact se_isin1 g.K g.G.kit h7 h8 (ih.E h3 g) h2 (g.cl h4)
        · cases h
      · cases h
    | mt m ia ies =>
      cases m <;> first
        | (simp only at h; cases h; done)
        | skip
      cases ies with
      | nil => simp only at h; cases h
      | cons ib ies =>
        cases ies with
        | nil =>
          simp only at h
          split at h
          · simp only [Bool.and_eq_true, decide_eq_true_eq] at h
            obtain ⟨⟨⟨⟨⟨h1, h2⟩, h3⟩, h4⟩, h5⟩, h6⟩ := h
            subst h1
            exact se_append (ih.E h5 g) (ih.E h6 g) h2 h3 h4
          · cases h
        | cons => simp only at h; cases h
    | _ => simp only at h; cases h
theorem snd_T {n : Nat} (ih : Snd n) {L : Ld} {k : Nat} {C : Cfg} {ck : Ck} {X : Cx} {e : Expr} {ie : E} (h : chkT (n + 1) ck e ie = true) (g : Gd L k C ck X) : PT X e (tT C ie) := by
  rw [chkT.eq_def] at h
  simp only at h
  have gen : (plainT e && chkE n ck e ie) = true → PT X e (tT C ie) := fun h => by
    rw [Bool.and_eq_true] at h
    exact st_val (ih.E h.2 g) (isTrue_val h.1)
  cases ie with
  | no ia =>
    simp only at h
    split at h
    · exact st_no (ih.T h g)
    · cases h
  | cmp op ia ib =>
    simp only at h
    split at h
    · simp only [Bool.and_eq_true, Bool.not_eq_true'] at h
      obtain ⟨⟨⟨h1, h2⟩, h3⟩, h4⟩ := h
      obtain ⟨r, ho, cr⟩ := g.cmp h1
      exact st_cmp (ih.E h3 g) (ih.E h4 g) ho cr h2
    · cases h
  | isC ng ia v =>
    simp only at h
    have key : ∀ {e : Expr} {o : CmpOp} {cn : Expr} {r : R2} {tb : TE} {a : Expr} {pos : Pos}, OpR X (compareOp o) r → PE X a (tE C ia) → PE X cn tb → behindInMarks o cn = false → (∀ σ H Q, tE C (.isC ng ia v) σ H Q → tOp r (tE C ia) tb σ H Q) → PT X (.Compare a [o] [cn] pos) (tT C (.isC ng ia v)) := fun ho ha hb hm hw => st_isC ho ha hb hm hw
    split at h
    · split at h
      · refine st_isC op_isN (ih.E h g) pe_non (nomark _) fun σ H Q h => ?_
        obtain ⟨hid, η, st, ρ, rel, env, h⟩ := h
        rw [evE] at h
        refine tE1 rel env h fun x η1 st1 H1 r1 g1 e1 u ru q => ⟨rfl, ?_⟩
        rw [rep_non ru]
        exact q η1 H1 r1 Gr.refl _ (by simp [Rep])
      · refine st_isC op_notN (ih.E h g) pe_non (nomark _) fun σ H Q h => ?_
        obtain ⟨hid, η, st, ρ, rel, env, h⟩ := h
        rw [evE] at h
        refine tE1 rel env h fun x η1 st1 H1 r1 g1 e1 u ru q => ⟨rfl, ?_⟩
        rw [rep_non ru]
        exact q η1 H1 r1 Gr.refl _ (by simp [Rep])
      · rw [Bool.and_eq_true, decide_eq_true_eq] at h
        obtain ⟨rfl, h⟩ := h
        refine st_isC op_isBl (ih.E h g) pe_bl (nomark _) fun σ H Q h => ?_
        obtain ⟨hid, η, st, ρ, rel, env, h⟩ := h
        rw [evE] at h
        refine tE1 rel env h fun x η1 st1 H1 r1 g1 e1 u ru q => ?_
        cases x with
        | bl x =>
          obtain rfl : u = .bl x := by simpa [Rep] using ru
          exact ⟨x, _, rfl, rfl, q η1 H1 r1 Gr.refl _ (by simp [Rep])⟩
        | _ => exact q.elim
      · rw [Bool.and_eq_true, decide_eq_true_eq] at h
        obtain ⟨rfl, h⟩ := h
        refine st_isC op_notBl (ih.E h g) pe_bl (nomark _) fun σ H Q h => ?_
        obtain ⟨hid, η, st, ρ, rel, env, h⟩ := h
        rw [evE] at h
        refine tE1 rel env h fun x η1 st1 H1 r1 g1 e1 u ru q => ?_
        cases x with
        | bl x =>
          obtain rfl : u = .bl x := by simpa [Rep] using ru
          exact ⟨x, _, rfl, rfl, q η1 H1 r1 Gr.refl _ (by simp [Rep])⟩
        | _ => exact q.elim
      · cases h
    · cases h
  | chn o1 o2 ia ib ic =>
    simp only at h
    split at h
    · simp only [Bool.and_eq_true, Bool.not_eq_true'] at h
      obtain ⟨⟨⟨⟨⟨h1, h2⟩, h3⟩, h4⟩, h5⟩, h6⟩ := h
      obtain ⟨r, ho, cr⟩ := g.cmp h1
      obtain ⟨r', ho', cr'⟩ := g.cmp h2
      exact st_chn (ih.E h4 g) (ih.E h5 g) (ih.E h6 g) ho ho' cr cr' h3
    · cases h
  | and _ _ => exact (ih.W h g).pt
  | or _ _ => exact (ih.W h g).pt
  | _ => exact gen h
theorem snd_W {n : Nat} (ih : Snd n) {L : Ld} {k : Nat} {C : Cfg} {ck : Ck} {X : Cx} {e : Expr} {ie : E} (h : chkW (n + 1) ck e ie = true) (g : Gd L k C ck X) : PW X e (tT C ie) := by
  rw [chkW.eq_def] at h
  simp only at h
  split at h
  · rename_i op a p
    cases op with
    | And => exact pw_and1 (ih.T h g)
    | Or => exact pw_or1 (ih.T h g)
  · split at h
    · rw [Bool.and_eq_true] at h
      exact st_and (ih.T h.1 g) (ih.W h.2 g)
    · cases h
  · split at h
    · rw [Bool.and_eq_true] at h
      exact st_or (ih.T h.1 g) (ih.W h.2 g)
    · cases h
  · cases h
theorem snd : ∀ n, Snd n
  | 0 => ⟨fun h _ => (by rw [chkE.eq_def] at h; cases h), fun h _ => (by rw [chkEs.eq_def] at h; cases h), fun h _ => (by rw [chkK.eq_def] at h; cases h), fun h _ => (by rw [chkO.eq_def] at h; cases h), fun h _ => (by rw [chkC.eq_def] at h; cases h), fun h _ => (by rw [chkT.eq_def] at h; cases h), fun h _ => (by rw [chkW.eq_def] at h; cases h), fun h _ => (by rw [chkI.eq_def] at h; cases h)⟩
  | n + 1 => by
    have ih := snd n
    refine ⟨fun h g => snd_E ih h g, fun {L k C ck X es ies} h g => ?_, fun {L k C ck X es vs ks ies} h g => ?_, fun {L k C ck X o io} h g => ?_, fun {L k C ck X es io} h g => ?_, fun h g => snd_T ih h g, fun h g => snd_W ih h g, fun {L k C ck X e ie} h g tg => ?_⟩
    · rw [chkEs.eq_def] at h
      simp only at h
      split at h
      · exact ⟨se_nil, rfl, fun _ => rfl⟩
      · simp only [Bool.and_eq_true] at h
        obtain ⟨⟨h1, h2⟩, h3⟩ := h
        obtain ⟨q1, q2, q3⟩ := ih.Es h3 g
        exact ⟨se_cons (ih.E h2 g) q1 h1, by rw [List.all_cons, h1, q2]; rfl, fun z => by cases z⟩
      · cases h
    · rw [chkK.eq_def] at h
      simp only at h
      split at h
      · exact .nil
      · simp only [Bool.and_eq_true] at h
        exact .cons h.1.1 (ih.E h.1.2 g) (ih.K h.2 g)
      · cases h
    · rw [chkO.eq_def] at h
      simp only at h
      split at h
      · exact so_none
      · exact so_some (ih.E h g)
      · cases h
    · rw [chkC.eq_def] at h
      simp only at h
      split at h
      · exact sc_none
      · exact sc_some (ih.T h g)
      · cases h
    · rw [chkI.eq_def] at h
      simp only at h
      split at h
      · split at h
        · simp only [Bool.and_eq_true] at h
          obtain ⟨⟨h1, h2⟩, h3⟩ := h
          obtain ⟨rfl, h4, h5⟩ := g.glN h1
          exact si_range1 h4 h5 (ih.E h3 g) h2
        · cases h
      · split at h
        · simp only [Bool.and_eq_true] at h
          obtain ⟨⟨⟨⟨h1, h2⟩, h3⟩, h6⟩, h7⟩ := h
          obtain ⟨rfl, h4, h5⟩ := g.glN h1
          exact si_range2 h4 h5 (ih.E h6 g) (ih.E h7 g) h2 h3
        · cases h
      · exact si_row g.K (ih.E h g)
end M
end
section
set_option Elab.async false
set_option linter.all false
set_option maxRecDepth 10000
set_option maxHeartbeats 2000000
set_option autoImplicit false
/-! Sem29: the check of statements; a def's promise by the check. -/
namespace M
open PySem PySem.Spec PyProof.Rows L2
def isLoc (ck : Ck) (x : Str) : Bool := match kd ck x with
  | some .local => true
  | _ => false
def swB (ck : Ck) (x : Str) (px p : Pos) (scope : Scope) : Bool := isLoc ck x && px.line == p.line && !(scope.names.any fun (n, k) => n == x && (k == .local || k == .cell))
def unNm : List Tg → Option (List Nat)
  | [] => some []
  | .nm i :: r => (unNm r).map (i :: ·)
  | _ :: _ => none
def chkLc (n : Nat) (ck : Ck) (el tg iter : Expr) (ifs : List Expr) (scope : Scope) : E → Bool
  | .comp _ elt is one vs it cond => blkC ck.N ck.sc scope (ownOf ck vs) && decide ((ownOf ck vs).map (·.2) = vs) && is.all (fun i => decide (i ∈ vs)) && notSet iter && chkI n ck iter it && tgB (blkOf ck scope) tg is one && chkC n (blkOf ck scope) ifs cond && chkE n (blkOf ck scope) el elt
  | _ => false
def par2 (n : Nat) (ck : Ck) (es : List Expr) (e : Expr) (is : List Nat) (ie : E) : Bool := match es, e, is, ie with
  | [.Name x px, .Name y py], .Tuple [a, b] _ _, [i, j], .tup [ia, ib] => decide (ck.N[i]? = some x) && decide (ck.N[j]? = some y) && decide (i ≠ j) && isLoc ck x && isLoc ck y && (py.line == px.line) && decide (x ≠ y) && nst a && nst b && !([a, b].all (foldedForSure 8)) && !([a, b].all (constantsAlone 8)) && chkE n ck a ia && chkE n ck b ib
  | _, _, _, _ => false
mutual
def chkS : Nat → Ck → Stmt → S → Bool
  | 0, _, _, _ => false
  | n + 1, ck, s, i => match i with
    | .asg (.nm i) ie => (match s with
      | .Assign [.Name x px] e _ => decide (ck.N[i]? = some x) && locB ck x && (match e with
        | .ListComp el [⟨tg, iter, ifs, 0⟩] scope p => if swB ck x px p scope then chkLc n ck el tg iter ifs scope ie else chkE n ck (.ListComp el [⟨tg, iter, ifs, 0⟩] scope p) ie
        | e => !lc? e && chkE n ck e ie)
      | _ => false)
    | .asg (.tp ts) ie => (match s with
      | .Assign [.Tuple es _ _] e _ => (match unNm ts with
        | some is => if tup? e then par2 n ck es e is ie else nmsB ck es is && chkE n ck e ie
        | none => false)
      | _ => false)
    | .asg (.ix ia ii) ie => (match s with
      | .Assign [.Subscript o i _] e _ => plainIx i && chkE n ck o ia && chkE n ck i ii && chkE n ck e ie
      | _ => false)
    | .asg (.at_ io f) ie => (match s with
      | .Assign [.Attribute o x _] e _ => decide (sS f = x) && chkE n ck o io && chkE n ck e ie
      | _ => false)
    | .expr ie => (match s with
      | .Expr e _ => !lc? e && chkE n ck e ie
      | _ => false)
    | .ret ie => (match s with
      | .Return (some e) _ => chkE n ck e ie
      | _ => false)
    | .retN => (match s with
      | .Return none _ => true
      | _ => false)
    | .ifs ic a b => (match s with
      | .If c sa sb _ => chkT n ck c ic && chkSs n ck sa a && chkSs n ck sb b
      | _ => false)
    | .fors is one it b => (match s with
      | .For tg iter body [] _ => notSet iter && chkI n ck iter it && tgB ck tg is one && chkSs n ck body b
      | _ => false)
    | .whl ic b => (match s with
      | .While c body [] _ => chkT n ck c ic && chkSs n ck body b
      | _ => false)
    | .pass => (match s with
      | .Pass _ => true
      | _ => false)
    | .brk => (match s with
      | .Break _ => true
      | _ => false)
    | .cnt => (match s with
      | .Continue _ => true
      | _ => false)
    | _ => false
def chkSs : Nat → Ck → List Stmt → List S → Bool
  | 0, _, _, _ => false
  | n + 1, ck, ss, is => match ss, is with
    | [], [] => true
    | s :: ss, i :: is => chkS n ck s i && chkSs n ck ss is
    | _, _ => false
end
structure Gs (L : Ld) (k : Nat) (C : Cfg) (ck : Ck) (X : Cx) : Prop extends Gd L k C ck X where
  pass : PassesOwn (model X.prog X.w) X.A X.env X.xe
  kind : ck.sc.kind = .function
theorem unNm_ok : ∀ {ts : List Tg} {is : List Nat}, unNm ts = some is → ts = is.map .nm
  | [], is, h => by cases h; rfl
  | t :: ts, is, h => by
    cases t with
    | nm i =>
      simp only [unNm] at h
      obtain ⟨js, h1, rfl⟩ := Option.map_eq_some_iff.mp h
      rw [unNm_ok h1]; rfl
    | _ => cases h
theorem Gs.isLoc {L : Ld} {k : Nat} {C : Cfg} {ck : Ck} {X : Cx} (g : Gs L k C ck X) {x : Str} (h : isLoc ck x = true) : X.env.scope.names.lookup x = some .local := by
  unfold M.isLoc kd at h
  rw [← g.sc] at h
  split at h
  · assumption
  · cases h
theorem sw_sole {t e : Expr} {l : Nat} {env : Env} (h : (match t with | .Name _ _ => false | _ => true) = true) : swapsWithSole [t] e l env = pure false := sw_other h
structure SndS (n : Nat) : Prop where
  S : ∀ {L k C ck X s i N}, chkS n ck s i = true → Gs L k C ck X → PS X s (tS C N i)
  Ss : ∀ {L k C ck X s i N}, chkSs n ck s i = true → Gs L k C ck X → PSs X s (tSs C N i)
theorem sw_eval {L : Ld} {k : Nat} {C : Cfg} {ck : Ck} {X : Cx} (g : Gs L k C ck X) {elt : Expr} {gs : List Comprehension} {scope : Scope} {p : Pos} {x : Str} {px : Pos} {l : Nat} : swapsWith (.ListComp elt gs scope p) (some (.Name x px)) l X.env = pure (swB ck x px p scope) := by
  rw [sw_lc, blockKind_fn g.sc g.kind]
  congr 1
  unfold swB M.isLoc kd
  rw [← g.sc]
  show ((ScopeKind.function == .function) && (X.env.scope.names.lookup x == some .local) && px.line == p.line && _) = _
  cases e : X.env.scope.names.lookup x with
  | none => rfl
  | some kk => cases kk <;> rfl
theorem snd_S {n : Nat} (ih : SndS n) {L : Ld} {k : Nat} {C : Cfg} {ck : Ck} {X : Cx} {s : Stmt} {i : S} {N : Nat} (h : chkS (n + 1) ck s i = true) (g : Gs L k C ck X) : PS X s (tS C N i) := by
  have nd : X.N.Nodup := by rw [g.N]; exact g.nd
  have se := snd n
  rw [chkS.eq_def] at h
  simp only at h
  cases i with
  | asg t ie =>
    cases t with
    | nm i =>
      simp only at h
      split at h
      · rename_i x px e p
        simp only [Bool.and_eq_true, decide_eq_true_eq] at h
        obtain ⟨⟨h1, h2⟩, h3⟩ := h
        obtain ⟨hl, hf⟩ := g.loc h2
        have hN : X.N[i]? = some x := by rw [g.N]; exact h1
        split at h3
        · rename_i el tg iter ifs scope p3
          split at h3
          · rename_i hsw
            unfold chkLc at h3
            split at h3
            · rename_i m elt is one vs it cond
              simp only [Bool.and_eq_true, decide_eq_true_eq] at h3
              obtain ⟨⟨⟨⟨⟨⟨⟨k1, k2⟩, k3⟩, k4⟩, k5⟩, k6⟩, k7⟩, k8⟩ := h3
              have hloc : X.env.scope.names.lookup x = some .local := by
                unfold swB at hsw
                rw [Bool.and_eq_true, Bool.and_eq_true] at hsw
                exact g.isLoc hsw.1.1
              rw [← k2]
              refine ss_setLc g.calm nd g.K hN hloc (by rw [sw_eval g, hsw]) (se.I k5 g.toGd _) (by have := blkOk_by k1; rw [g.N, g.sc]; exact this) (fun i hi => ?_) (fun s H Ca cl fp => ?_) (fun s H Ca cl fp => se.C k7 (g.toGd.blk s H Ca cl fp)) (fun s H Ca cl fp => se.E k8 (g.toGd.blk s H Ca cl fp)) (nofold k4)
              · rw [k2]
                rw [List.all_eq_true] at k3
                exact of_decide_eq_true (k3 i hi)
              · exact (g.toGd.blk s H Ca cl fp).tg k6
            · cases h3
          · rename_i hsw
            exact ss_setNm nd hN hl hf (se.E h3 g.toGd) (by rw [sw_eval g, Bool.eq_false_iff.mpr hsw])
        · rw [Bool.and_eq_true, Bool.not_eq_true'] at h3
          exact ss_setNm nd hN hl hf (se.E h3.2 g.toGd) (sw_no h3.1)
      · cases h
    | tp ts =>
      simp only at h
      split at h
      · split at h
        · rename_i is e1
          rw [unNm_ok e1]
          split at h
          · unfold par2 at h
            split at h
            · simp only [Bool.and_eq_true, decide_eq_true_eq, Bool.not_eq_true'] at h
              obtain ⟨⟨⟨⟨⟨⟨⟨⟨⟨⟨⟨⟨h1, h2⟩, h3⟩, h4⟩, h5⟩, h6⟩, h7⟩, h8⟩, h9⟩, h10⟩, h11⟩, h12⟩, h13⟩ := h
              exact ss_par g.calm nd (by rw [g.N]; exact h1) (by rw [g.N]; exact h2) h3 (g.isLoc h4) (g.isLoc h5) (se.E h12 g.toGd) (se.E h13 g.toGd) h8 h9
                (swap2 (blockKind_fn g.sc g.kind) (g.isLoc h4) (g.isLoc h5) h6 h7 h8 h9 h10 h11)
            · cases h
          · rename_i ht
            rw [Bool.and_eq_true] at h
            exact ss_setTup g.calm nd g.K (g.nms h.1) (se.E h.2 g.toGd) (sw_sole rfl) (sst_no (Bool.eq_false_iff.mpr ht))
        · cases h
      · cases h
    | ix ia ii =>
      simp only at h
      split at h
      · simp only [Bool.and_eq_true] at h
        obtain ⟨⟨⟨h1, h2⟩, h3⟩, h4⟩ := h
        exact ss_sub g.hu (se.E h4 g.toGd) (se.E h2 g.toGd) (se.E h3 g.toGd) h1 (sw_sole rfl) (sst_other rfl)
      · cases h
    | at_ io f =>
      simp only at h
      split at h
      · simp only [Bool.and_eq_true, decide_eq_true_eq] at h
        obtain ⟨⟨h1, h2⟩, h3⟩ := h
        exact ss_fld h1 g.G.at_ g.K (se.E h2 g.toGd) (se.E h3 g.toGd) (sw_other rfl)
      · cases h
  | expr ie =>
    simp only at h
    split at h
    · rw [Bool.and_eq_true, Bool.not_eq_true'] at h
      exact ss_expr (se.E h.2 g.toGd) (sw_no h.1)
    · cases h
  | ret ie =>
    simp only at h
    split at h
    · exact ss_ret (se.E h g.toGd)
    · cases h
  | retN =>
    simp only at h
    split at h
    · exact ss_retN
    · cases h
  | ifs ic a b =>
    simp only at h
    split at h
    · simp only [Bool.and_eq_true] at h
      exact ss_if (se.T h.1.1 g.toGd) (ih.Ss h.1.2 g) (ih.Ss h.2 g)
    · cases h
  | fors is one it b =>
    simp only at h
    split at h
    · simp only [Bool.and_eq_true] at h
      obtain ⟨⟨⟨h1, h2⟩, h3⟩, h4⟩ := h
      exact ss_for g.pass g.calm g.K (se.I h2 g.toGd _) (g.tg h3) (ih.Ss h4 g) (nofold h1)
    · cases h
  | whl ic b =>
    simp only at h
    split at h
    · rw [Bool.and_eq_true] at h
      exact ss_while g.pass (se.T h.1 g.toGd) (ih.Ss h.2 g)
    · cases h
  | pass =>
    simp only at h
    split at h
    · exact ss_pass
    · cases h
  | brk =>
    simp only at h
    split at h
    · exact ss_brk
    · cases h
  | cnt =>
    simp only at h
    split at h
    · exact ss_cnt
    · cases h
  | _ => cases h
theorem sndS : ∀ n, SndS n
  | 0 => ⟨fun h _ => (by rw [chkS.eq_def] at h; cases h), fun h _ => (by rw [chkSs.eq_def] at h; cases h)⟩
  | n + 1 => by
    have ih := sndS n
    refine ⟨fun h g => snd_S ih h g, fun {L k C ck X s i N} h g => ?_⟩
    rw [chkSs.eq_def] at h
    simp only at h
    split at h
    · exact ss_nil
    · rw [Bool.and_eq_true] at h
      exact ss_cons (ih.S h.1 g) (ih.Ss h.2 g)
    · cases h
/-- a def by the check -/
theorem fnG_chk {L : Ld} {W : Wl} {G : Pg} {k Nf n : Nat} {md : Bool} {np : Nat} {irs : List S} {ck : Ck} {f : Addr} {name qual : Str} {params : Arguments} {body : List Stmt} {dV kV doc pm cdv ct oc : Value} {an od : Option Addr} {osl : Array (Option Value)} {ps : List Str}
    (lk : L.K.lookup f = some ⟨oc, od, .func (PySem.W.fnOf name qual params body ck.sc dV kV doc pm an cdv ct), osl⟩) (hcd : PySem.W.codeIn L.K cdv qual = true) (Sc : FnScope ck.N ps ck.sc) (hnp : ps.length = np) (hdf : ck.df = true)
    (hG : ∀ fr wx, Gok L k ⟨W, G, fr, wx⟩ ck) (hc : chkSs n ck body irs = true) : FnG L (k + 1) f (PySem.W.fnOf name qual params body ck.sc dV kV doc pm an cdv ct) ps (spM W (runF G Nf md ck.N.length np irs)) :=
  fnG_of lk hcd Sc hnp rfl fun X fr wx x => (sndS n).Ss hc ⟨⟨x.ld, x.N, x.sc, Sc.nd, x.calm, x.gd, x.room, x.tk, fun _ => x.fn, hG fr wx⟩, x.pass, Sc.kind⟩
end M
end
section
set_option Elab.async false
set_option linter.all false
set_option maxRecDepth 100000
set_option autoImplicit false
/-! Sem30: the head's facts; the law's end. -/
namespace M
open PySem PySem.Spec PyProof.Rows L2
/-! ### facts of the module, by one run -/
def SaysM (ck : PySem.W.Frag → Bool) (fn : List He.FnD) (K : PySem.W.Frag) : Prop := obsM ck fn K = valM fn
def obsMG (ck : PySem.W.Frag → Bool) (fn : List He.FnD) (g : Addr → Option Obj) : AlM := obsM ck fn (frM g)
def hookM (ck : PySem.W.Frag → Bool) (fn : List He.FnD) : PySem.W.Hook where
  α := AlM
  obs := fun s => obsMG ck fn s.heap.get?
  val := fun _ => valM fn
  says := fun _ h => ∃ K : PySem.W.Frag, K.In h ∧ SaysM ck fn K
  of := fun _ _ e => ⟨_, He.frG_in, e⟩
  keeps := fun _ _ _ ⟨K, hK, c⟩ k => ⟨K, PySem.W.Frag.In.keeps hK k, c⟩
theorem obsMG_eq {ck : PySem.W.Frag → Bool} {fn : List He.FnD} {g : Addr → Option Obj} {s : Shared} (h : ∀ a, g a = s.heap.get? a) : obsMG ck fn g = (hookM ck fn).obs s := by
  have e : g = s.heap.get? := funext h
  rw [e] <;> rfl
/-! the run in parts: each looks at a part of the facts -/
section
variable {ck : PySem.W.Frag → Bool} {fn : List He.FnD} {K : PySem.W.Frag}
theorem SaysM.chk (c : SaysM ck fn K) : ck K = true := (Bool.and_eq_true_iff.mp (show (ck K && fn.all fun d => (He.Fa.code d.at_ d.qual).ok K) = true from congrArg (fun z : AlM => z.1) c)).1
theorem SaysM.def_ (c : SaysM ck fn K) {d : He.FnD} (h : d ∈ fn) :
    ∃ oc od osl kV doc pm an cdv ct, K.lookup (He.fAd K d.at_) = some ⟨oc, od, .func (PySem.W.fnOf d.name d.qual d.params d.body d.scope .none kV doc pm an cdv ct), osl⟩ ∧ PySem.W.codeIn K cdv d.qual = true := by
  have c2 := (Bool.and_eq_true_iff.mp (show (ck K && fn.all fun d => (He.Fa.code d.at_ d.qual).ok K) = true from congrArg (fun z : AlM => z.1) c)).2
  have e : fn.map (fun d => He.fnObs K d.at_) = fn.map He.FnD.val := congrArg (fun z : AlM => z.2) c
  obtain ⟨i, hi, rfl⟩ := List.getElem_of_mem h
  have e2 : (fn.map fun d => He.fnObs K d.at_)[i]? = (fn.map He.FnD.val)[i]? := by rw [e]
  rw [List.getElem?_map, List.getElem?_map, List.getElem?_eq_getElem hi] at e2
  exact He.fn_ok (Option.some.inj e2) (List.all_eq_true.mp c2 _ h)
end
/-! ### the law's end -/
/-- the law's promise at the heap behind the top, for a def that stands in no guard -/
theorem law_callG {P : Program} {w : World} {K : PySem.W.Frag} {mg mb : Str → Option Value} {k : Nat} {fa a : Addr} {fd : FuncData} {x : Str} {F : Fs} {W : Wl} {s₁ : Shared} {vs : List Value} {ns : List Int}
    (KX : K.In s₁.heap) (hns : s₁.heap.Ns mainGlobals mg) (hb : s₁.heap.Ns builtinsNs mb) (hbb : ∀ x : Str, x ≠ "__name__" → mb x = bootBuiltins x) (hlim : s₁.heap.NoLimit) (hg : s₁.gens = #[])
    (ha : s₁.heap.get? a = some { cls := .type "list", data := .seq vs.toArray }) (hi : IntsAre vs ns) (hl : ns.length ≤ sizeLine) (hr : Room k callerA)
    (hF : ∀ base : Heap, K.In base → base.Ns mainGlobals mg → FnG ⟨P, w, K, mg, base⟩ k fa fd [x] (spM W F)) (hW : W.K = K) (hbind : ∀ (s : Shared) (u : Value), BindsTo s fd ⟨[u], []⟩ [(x, u)])
    (hv : ∃ st, F [] [.lck (ns.map .int)] [] = .ok (.bl true) st) :
    codeAny (model P w) callerA (.call (.ref fa) ⟨[.ref a], []⟩) (fun r s' => r = .ok (.ret (.bool true)) ∧ OldK s₁.heap s'.heap ∧ s'.os = s₁.os ∧ AllBare s'.gens) s₁ := by
  have rv := vals_ints hi
  have lenV := hi.length
  -- the abstract heap: nothing but the script
  have main : ∀ H : Hp, FzL W (fun _ => False) H a (ns.map V.int) → HOk P w H s₁.heap → (∀ b u, H b = some u → b = a ∧ K.lookup a = none ∧ ∃ o xs, u = .frz o (.lst xs)) →
      codeAny (model P w) callerA (.call (.ref fa) ⟨[.ref a], []⟩) (fun r s' => r = .ok (.ret (.bool true)) ∧ OldK s₁.heap s'.heap ∧ s'.os = s₁.os ∧ AllBare s'.gens) s₁ := by
    intro H hS hok only
    have free : ∀ {b : Addr} {o : Obj}, s₁.heap.get? b = some o → (∀ its m, o.data ≠ .seq its m) → H b = none := fun {b o} e hd => by
      cases q : H b with
      | none => rfl
      | some u =>
        obtain ⟨rfl, _⟩ := only b u q
        rw [ha] at e; cases e
        exact absurd rfl (hd _ _)
    have old : ∀ {b : Addr} {o : Obj}, s₁.heap.get? b = some o → H b = none → (hidT s₁.heap H).get? b = some o := fun e n => hidT_get e n
    have ns' : ∀ {b : Addr} {m : Str → Option Value}, s₁.heap.Ns b m → (hidT s₁.heap H).Ns b m := fun {b m} ⟨o, es, ep, e, d, r⟩ => ⟨o, es, ep, old e (free e fun its m z => by rw [d] at z; cases z), d, r⟩
    have kIn : K.In (hidT s₁.heap H) := fun b o e => old (KX b o e) (by
      cases q : H b with
      | none => rfl
      | some u =>
        obtain ⟨rfl, hk, _⟩ := only b u q
        rw [hk] at e; cases e)
    have md : Mod K mg (hidT s₁.heap H) := ⟨kIn, ns' hns, ⟨mb, ns' hb, hbb⟩, let ⟨mc, h1, h2⟩ := hlim; ⟨mc, ns' h1, h2⟩⟩
    have e0 : Env0 P w K mg (hidT s₁.heap H) callerA [] s₁ H := ⟨rfl, md, fun b o e => of_hidT e, Nat.le_of_eq (hidT_size _ _), trivial, fun b hb => absurd (show b ∈ ([] : List Addr) from hb) (by simp), hok, .of_eq hg⟩
    have rel : Rel W (fun _ => False) [] [] H := ⟨rfl, fun n o a h => by simp at h, fun m n o o' a h => by simp at h, fun a h => h.elim, fun a h => h.elim⟩
    have sp : spM W F [.ref a] H (fun v _ => v = .bl true) (fun _ _ _ => False) := by
      obtain ⟨st, e⟩ := hv
      refine ⟨fun _ => False, [], [], [], [.lck (ns.map .int)], rel, ?_, ?_⟩
      · simp only [Reps]
        refine ⟨_, _, rfl, ?_, rfl⟩
        simp only [Rep]
        refine ⟨a, ns.map V.int, rfl, hS.mono fun b o h n => ⟨h, fun z => z.elim id fun ⟨n, o, h, _⟩ => by simp at h⟩, ?_⟩
        have : ∀ l : List Int, Reps W (Tb (fun _ => False) [] []) [] H (l.map .int) (l.map V.int) := fun l => by
          induction l with
          | nil => simp [Reps]
          | cons i l ih =>
            simp only [List.map_cons, Reps]
            exact ⟨_, _, rfl, by simp [Rep], ih⟩
        exact this ns
      · rw [e]
        exact fun η' H' r g u ru => by simpa [Rep] using ru
    refine codeAny_mono ((hF _ kIn (ns' hns)).run callerA [] s₁ H ⟨[.ref a], []⟩ [.ref a] [.ref a] _ _ hr rfl e0 (hbind s₁ (.ref a)) (.cons rfl .nil) sp) fun r s' h => ?_
    cases r with
    | error e =>
      obtain ⟨_, _, _, _, _, _, _, _, _, _, _, _, z⟩ := h
      exact z.elim
    | ok fl =>
      cases fl with
      | next => exact False.elim h
      | brk => exact False.elim h
      | cont => exact False.elim h
      | ret u =>
        obtain ⟨v, H', os, bare, un, hok', r', q⟩ := h
        have q' : v = .bl true := q
        subst q'
        obtain rfl : u = Value.bool true := r'
        refine ⟨rfl, OldK.of_keep fun b o e => ?_, os, bare⟩
        cases q : H b with
        | none => exact un.keep b o e q (by intro z; exact absurd (show b ∈ ([] : List Addr) from z) (by simp)) (by simp)
        | some u =>
          obtain ⟨rfl, _, ob, xs, rfl⟩ := only b u q
          have z2 := un.frzs b ob _ q
          obtain ⟨e1, _⟩ := hok b _ q
          obtain ⟨e2, _⟩ := hok' b _ z2
          rw [e] at e1; cases e1
          exact e2
  cases hk : K.lookup a with
  | some o =>
    have e := KX a o hk
    rw [ha] at e
    cases e
    refine main (fun _ => none) (.inr ?_) (fun b u z => by cases z) (fun b u z => by cases z)
    rw [hW]
    exact ⟨_, vs.toArray, _, hk, rfl, rfl, rfl, by rw [List.size_toArray, lenV]; exact hl, by simpa using rv⟩
  | none =>
    refine main (fun b => if b = a then some (.frz { cls := .type "list", data := .seq vs.toArray } (.lst (ns.map V.int))) else none) (.inl ⟨.inr ⟨_, if_pos rfl⟩, id⟩) (fun b u z => ?_) (fun b u z => ?_)
    · by_cases hb : b = a
      · have z' := (if_pos hb).symm.trans z
        cases z'
        subst hb
        exact ⟨ha, by rw [List.length_map]; exact hl, vs, _, rv, ha⟩
      · have z' := (if_neg hb).symm.trans z
        cases z'
    · by_cases hb : b = a
      · have z' := (if_pos hb).symm.trans z
        cases z'
        exact ⟨hb, hk, _, _, rfl⟩
      · have z' := (if_neg hb).symm.trans z
        cases z'
theorem walkG {l : PySem.W.OpenLaw} {n k : Nat} {q : Program} {loose : List Str} {XP : (Str → Option Value) → Heap → Prop} {YP : World → Heap → Prop} {d : DefRec} {x : Str}
    (hn : l.most = some n) (hn2 : n ≤ sizeLine) (hdf : d.params.defaults = []) (hr : Room k callerA)
    (F : ∀ (w : World) (mg : Str → Option Value) (fa : Addr) (h : Heap), YP w h → h.Ns mainGlobals mg → mg d.name = some (.ref fa) →
      ∃ (K : PySem.W.Frag) (fd : FuncData) (W : Wl) (Fl : Fs), K.In h ∧ W.K = K ∧ (∀ (s : Shared) (u : Value), BindsTo s fd ⟨[u], []⟩ [(x, u)]) ∧
        (∀ ns : List Int, ns.length ≤ n → ∃ st, Fl [] [.lck (ns.map .int)] [] = .ok (.bl true) st) ∧
        ∀ base : Heap, K.In base → base.Ns mainGlobals mg → FnG ⟨l.prog, w, K, mg, base⟩ k fa fd [x] (spM W Fl)) :
    PySem.W.WalkO q loose XP YP l.row.toRowW d [] (fun f vs => PySem.call f vs) := by
  refine Att.attach_call hn hdf fun w s₀ s₁ mg mb fa o pm cd doc a vs ns G Y ho hd hcd hmg hobj hints hlen hg => ?_
  obtain ⟨K, fd, W, Fl, KX, hW, hb, hv, hF⟩ := F w mg fa _ Y G.T.g hmg
  exact law_callG KX G.T.g G.T.b G.T.builtins G.T.nolimit hg hobj hints (Nat.le_trans hlen hn2) hr hF hW hb (hv ns hlen)
end M
end
section
set_option Elab.async false
set_option linter.all false
set_option maxRecDepth 100000
set_option autoImplicit false
/-! Sem31: tables of a law; calls by the check. -/
namespace M
open PySem PySem.Spec PyProof.Rows L2
def Tabs.pg (t : Tabs) (fn : List (String × Fs)) (gv : List (String × Va) := []) : Pg := { fn := fn, gv := gv, at_ := t.at_, idn := t.names, kit := t.names.map fun x => (x, x), kitb := t.kb }
def wlOf (K : PySem.W.Frag) : Wl := ⟨K, gaS K, fun _ _ _ => False⟩
structure TabP (t : Tabs) (K : PySem.W.Frag) : Prop where
  sym : symK K = true
  defs : ∀ x ∈ t.defs, (He.Fa.glo (sS x)).ok K = true ∧ (He.Fa.keep (sS x)).ok K = true
  free : ∀ x ∈ t.free, (He.Fa.free (sS x)).ok K = true
  cls : ∀ p ∈ t.at_, clB K p = true
  mkr : ∀ p ∈ t.cl, (He.Fa.mkr (sS p.1)).ok K = true
  bare : ∀ x ∈ t.bare, PySem.W.makesIn K (gaS K x) = true ∧ PySem.W.findIn K (.ref (gaS K x)) "__init__" = some (some (.builtin "object.__init__"))
  kb : ∀ x ∈ t.kb, x ∈ t.names ∧ kitE K (gaS K x) = true
theorem tabP {t : Tabs} {K : PySem.W.Frag} (h : tabOk t K = true) : TabP t K := by
  unfold tabOk at h
  simp only [Bool.and_eq_true, List.all_eq_true, decide_eq_true_eq] at h
  obtain ⟨⟨⟨⟨⟨⟨h1, h2⟩, h3⟩, h4⟩, h5⟩, h6⟩, h7⟩ := h
  exact ⟨h1, h2, h3, h4, h5, fun x hx => ⟨(h6 x hx).1, He.eqO_ok (h6 x hx).2⟩, h7⟩
theorem mem_lookup {α : Type} {l : List (String × α)} {k : String} {v : α} (h : l.lookup k = some v) : (k, v) ∈ l := by
  induction l with
  | nil => cases h
  | cons p l ih =>
    obtain ⟨a, b⟩ := p
    rw [List.lookup_cons] at h
    cases e : (k == a) with
    | true =>
      rw [e] at h; cases h
      rw [beq_iff_eq.mp e]; exact List.mem_cons_self
    | false => rw [e] at h; exact List.mem_cons_of_mem _ (ih h)
section
variable {t : Tabs} {K : PySem.W.Frag} {mg : Str → Option Value} {base : Heap} {P : Program} {w : World}
theorem TabP.name (T : TabP t K) {x : String} (h : x ∈ t.names) : ∃ fs, clB K (x, fs) = true := by
  unfold Tabs.names at h
  rcases List.mem_append.mp h with h | h
  · obtain ⟨p, hp, rfl⟩ := List.mem_map.mp h
    exact ⟨p.2, T.cls p (List.mem_append_left _ hp)⟩
  · exact ⟨[], T.cls (x, []) (List.mem_append_right _ (List.mem_map.mpr ⟨x, h, rfl⟩))⟩
theorem clB_ok {p : String × List String} (h : clB K p = true) : (He.Fa.glo (sS p.1)).ok K = true ∧ (He.Fa.keep (sS p.1)).ok K = true ∧ kitI K (gaS K p.1) = true ∧ cmpK K (gaS K p.1) = true ∧ ∀ f ∈ p.2, NoAttr K (gaS K p.1) (sS f) := by
  unfold clB at h
  simp only [Bool.and_eq_true, List.all_eq_true] at h
  obtain ⟨⟨⟨⟨h1, h2⟩, h3⟩, h5⟩, h6⟩ := h
  exact ⟨h1, h2, h3, h5, fun f hf => He.noat_ok (h6 f hf)⟩
theorem kitI_cls {D : Addr} (h : kitI K D = true) : Cls K D := by
  unfold kitI at h
  simp only [Bool.and_eq_true, decide_eq_true_eq] at h
  exact ⟨h.1.1.1.1.1, h.1.1.1.1.2, h.1.1.1.2, h.1.1.2⟩
/-- the callables of a def -/
inductive Fns (L : Ld) (W : Wl) (k : Nat) : List (String × Fs) → Prop where
  | nil : Fns L W k []
  | cons {f F r} (h : CallG L W k f F) (t : Fns L W k r) : Fns L W k ((f, F) :: r)
theorem Fns.get {L : Ld} {W : Wl} {k : Nat} {l : List (String × Fs)} (h : Fns L W k l) : ∀ {f : String}, f ∈ l.map (·.1) → ∃ F, l.lookup f = some F ∧ CallG L W k f F := by
  induction h with
  | nil => intro f hf; simp at hf
  | @cons g F r hc t ih =>
    intro f hf
    rw [List.lookup_cons]
    by_cases q : f = g
    · subst q; exact ⟨F, by simp, hc⟩
    · rw [show (f == g) = false from beq_eq_false_iff_ne.mpr q]
      exact ih (by simpa [q] using hf)
inductive Kfs (L : Ld) (W : Wl) (k : Nat) (fn : List (String × Fs)) : List (String × List Str) → Prop where
  | nil : Kfs L W k fn []
  | cons {f F ks r} (e : fn.lookup f = some F) (h : CallR' L W k f ks F) (t : Kfs L W k fn r) : Kfs L W k fn ((f, ks) :: r)
theorem Kfs.get {L : Ld} {W : Wl} {k : Nat} {fn : List (String × Fs)} {l : List (String × List Str)} (h : Kfs L W k fn l) : ∀ {f : String} {ks : List Str}, l.lookup f = some ks → ∃ F, fn.lookup f = some F ∧ CallR' L W k f ks F := by
  induction h with
  | nil => intro f ks hf; simp at hf
  | @cons g F kk r e hc t ih =>
    intro f ks hf
    rw [List.lookup_cons] at hf
    by_cases q : f = g
    · subst q; simp at hf; subst hf; exact ⟨F, e, hc⟩
    · rw [show (f == g) = false from beq_eq_false_iff_ne.mpr q] at hf
      exact ih hf
theorem gok {k : Nat} {fn : List (String × Fs)} {ck : Ck} (T : TabP t K) (X : K.In base) (G : base.Ns mainGlobals mg) (hf : Fns ⟨P, w, K, mg, base⟩ (wlOf K) k fn) (hk : Kfs ⟨P, w, K, mg, base⟩ (wlOf K) k fn ck.kfs)
    (h1 : (ck.fns.all fun x => decide (x ∈ fn.map (·.1))) = true) (h2 : (ck.free.all fun x => decide (x ∈ t.free)) = true) (h3 : (ck.cls.all fun x => decide (x ∈ t.names)) = true) (fr : Fr) (wx : WX) : Gok ⟨P, w, K, mg, base⟩ k ⟨wlOf K, t.pg fn, fr, wx⟩ ck := by
  simp only [List.all_eq_true, decide_eq_true_eq] at h1 h2 h3
  refine ⟨fun f hm => hf.get (h1 f hm), fun f ks e => hk.get e, fun c hc => ?_, fun x hx => He.free_ok X G (T.free x (h2 x hx)), fun x v e => (by cases e), fun D f h => ?_, fun D h => ?_, ⟨fun D E h => ?_, fun D h => ?_⟩, T.sym, rfl⟩
  · obtain ⟨fs, q⟩ := T.name (h3 c hc)
    exact He.glo_ok X G (clB_ok q).1
  · have h : (match t.at_.lookup D with | some fs => fs.contains f | none => false) = true := h
    split at h
    · rename_i fs e
      have q := T.cls (D, fs) (mem_lookup e)
      obtain ⟨_, _, q3, _, q6⟩ := clB_ok q
      exact ⟨kitI_cls q3, q6 f (by simpa using h)⟩
    · cases h
  · obtain ⟨fs, q⟩ := T.name (x := D) (by simpa [Tabs.pg] using h)
    exact (clB_ok q).2.2.2.1
  · have h : (D, E) ∈ t.names.map fun x => (x, x) := by simpa [Tabs.pg] using h
    obtain ⟨x, hx, e⟩ := List.mem_map.mp h
    cases e
    obtain ⟨fs, q⟩ := T.name hx
    obtain ⟨_, _, q3, _⟩ := clB_ok q
    refine ⟨q3, ?_⟩
    rw [decide_eq_true rfl]
    unfold PySem.W.kitOne
    rw [if_pos (by simp)]
  · obtain ⟨h1, h2⟩ := T.kb D (by simpa [Tabs.pg] using h)
    obtain ⟨fs, q⟩ := T.name h1
    exact ⟨(clB_ok q).2.2.1, h2⟩
def scB (N ps : List Str) (sc : Scope) : Bool := decide (sc.kind = .function) && !sc.isCoroutine && !sc.isGenerator && decide N.Nodup && decide (N.take ps.length = ps) && (ps.all fun x => decide (sc.names.lookup x = some .local) || decide (sc.names.lookup x = some .cell)) && sc.names.all fun y => decide (y.2 ≠ .free)
theorem scB_ok {N ps : List Str} {sc : Scope} (h : scB N ps sc = true) : FnScope N ps sc := by
  unfold scB at h
  simp only [Bool.and_eq_true, Bool.not_eq_true', decide_eq_true_eq, List.all_eq_true, Bool.or_eq_true] at h
  obtain ⟨⟨⟨⟨⟨⟨h1, h2⟩, h3⟩, h4⟩, h5⟩, h6⟩, h7⟩ := h
  exact ⟨h1, h2, h3, h4, h5, h6, fun y hy => by have := h7 y hy; simpa using this⟩
/-- how plain parameters are bound -/
def BindP (s : Stmt) (name qual : Str) (ps : List Str) : Prop := ∀ (kV doc pm : Value) (an : Option Addr) (cdv ct : Value) (us : List Value), us.length = ps.length → bindArgs (PySem.W.fnOf name qual (defArgs s) (defBody s) (defScope s) .none kV doc pm an cdv ct) ⟨us, []⟩ = pure (ps.zip us)
theorem fn_def {fnl : List He.FnD} {chk : PySem.W.Frag → Bool} {k Nf n : Nat} {md : Bool} {irs : List S} {ck : Ck} {ps : List Str} {G : Pg} {s : Stmt} {at_ : Str × Option Str} {name qual : Str} (c : SaysM chk fnl K) (hd : fdN s at_ name qual ∈ fnl) (hsc : ck.sc = defScope s)
    (hS : scB ck.N ps (defScope s) = true) (hb : BindP s name qual ps) (hdf : ck.df = true) (hG : ∀ fr wx, Gok ⟨P, w, K, mg, base⟩ k ⟨wlOf K, G, fr, wx⟩ ck) (hok : chkSs n ck (defBody s) irs = true) :
    ∃ fd, FnG ⟨P, w, K, mg, base⟩ (k + 1) (He.fAd K at_) fd ps (spM (wlOf K) (runF G Nf md ck.N.length ps.length irs)) ∧ Binds K fd ps [] ∧ (∃ kV doc pm an cdv ct, fd = PySem.W.fnOf name qual (defArgs s) (defBody s) (defScope s) .none kV doc pm an cdv ct) := by
  obtain ⟨oc, od, osl, kV, doc, pm, an, cdv, ct, lk, hcd⟩ := c.def_ hd
  refine ⟨_, fnG_chk (ck := ck) (by rw [hsc]; exact lk) hcd (by rw [hsc]; exact scB_ok hS) rfl hdf hG hok, ?_, ⟨kV, doc, pm, an, cdv, ct, by rw [hsc]; rfl⟩⟩
  rw [hsc]
  exact Binds.all fun us hl => hb kV doc pm an cdv ct us hl
/-- a def of the module, called -/
theorem call_def {fnl : List He.FnD} {chk : PySem.W.Frag → Bool} {k Nf n : Nat} {md : Bool} {irs : List S} {ck : Ck} {ps : List Str} {G : Pg} {s : Stmt} {x : String} (T : TabP t K) (X : K.In base) (Gn : base.Ns mainGlobals mg) (c : SaysM chk fnl K) (hx : x ∈ t.defs)
    (hd : fdN s (sS x, none) (sS x) (sS x) ∈ fnl) (hsc : ck.sc = defScope s) (hS : scB ck.N ps (defScope s) = true) (hb : BindP s (sS x) (sS x) ps) (hdf : ck.df = true) (hG : ∀ fr wx, Gok ⟨P, w, K, mg, base⟩ k ⟨wlOf K, G, fr, wx⟩ ck) (hok : chkSs n ck (defBody s) irs = true) :
    CallG ⟨P, w, K, mg, base⟩ (wlOf K) (k + 1) x (runF G Nf md ck.N.length ps.length irs) := by
  obtain ⟨fd, g, b, _⟩ := fn_def (Nf := Nf) (md := md) c hd hsc hS hb hdf hG hok
  exact callG_fn (He.glo_ok X Gn (T.defs x hx).1) (T.defs x hx).2 b g
/-- a class with __init__, made -/
theorem call_cls {fnl : List He.FnD} {chk : PySem.W.Frag → Bool} {k Nf n : Nat} {md md2 : Bool} {irs : List S} {ck : Ck} {ps ks : List Str} {G : Pg} {s : Stmt} {x : String} {qual : Str} {fs : List String} (T : TabP t K) (X : K.In base) (Gn : base.Ns mainGlobals mg) (c : SaysM chk fnl K) (hx : (x, fs) ∈ t.cl)
    (hd : fdN s (sS x, some "__init__") "__init__" qual ∈ fnl) (hsc : ck.sc = defScope s) (hS : scB ck.N ps (defScope s) = true) (hb : BindP s "__init__" qual ps) (hdf : ck.df = true) (hG : ∀ fr wx, Gok ⟨P, w, K, mg, base⟩ k ⟨wlOf K, G, fr, wx⟩ ck) (hok : chkSs n ck (defBody s) irs = true) :
    CallG ⟨P, w, K, mg, base⟩ (wlOf K) (k + 2) x (mkF md2 x (runF G Nf md ck.N.length ps.length irs)) ∧
      ((∀ (kV doc pm : Value) (an : Option Addr) (cdv ct : Value) (a : Value) (us : List Value), us.length = ks.length → bindArgs (PySem.W.fnOf "__init__" qual (defArgs s) (defBody s) (defScope s) .none kV doc pm an cdv ct) ⟨[a], ks.zip us⟩ = pure (ps.zip (a :: us.reverse))) →
        CallR' ⟨P, w, K, mg, base⟩ (wlOf K) (k + 2) x ks (mkF md2 x (runF G Nf md ck.N.length ps.length irs))) := by
  obtain ⟨fd, g, b, kV, doc, pm, an, cdv, ct, rfl⟩ := fn_def (Nf := Nf) (md := md) c hd hsc hS hb hdf hG hok
  have q := clB_ok (T.cls (x, fs) (List.mem_append_left _ hx))
  have hm := He.glo_ok X Gn q.1
  have mk := He.mkr_ok (T.mkr (x, fs) hx)
  exact ⟨callG_mk hm rfl mk b g, fun hk => callR_mk hm rfl mk (hk kV doc pm an cdv ct) g⟩
/-- a class without __init__ -/
theorem call_bare {k : Nat} {md : Bool} {x : String} (T : TabP t K) (X : K.In base) (Gn : base.Ns mainGlobals mg) (hx : x ∈ t.bare) : CallG ⟨P, w, K, mg, base⟩ (wlOf K) (k + 1) x (mkE md x) := by
  have q := clB_ok (T.cls (x, []) (List.mem_append_right _ (List.mem_map.mpr ⟨x, hx, rfl⟩)))
  exact callG_mk0 (He.glo_ok X Gn q.1) rfl (T.bare x hx).1 (T.bare x hx).2 q.2.1
end
end M
end
section
set_option Elab.async false
set_option linter.all false
set_option maxRecDepth 100000
set_option autoImplicit false
/-! Sem32: the run's parts, joined. -/
namespace M
open PySem PySem.Spec PyProof.Rows L2
theorem run_join {β : Type} {e : Option PySem.W.SharedT} {l : PySem.W.SharedT → Bool} {q : PySem.W.SharedT → β} {good : β} {c : PySem.W.Frag → Bool} {fn : List He.FnD}
    (h0 : e.map (fun s => (l s, q s, ())) = some (true, good, ())) (hA : e.map (fun s => c (frM (HandSHeadRun.getT s))) = some true)
    (hB : e.map (fun s => obsM (fun _ => true) fn (frM (HandSHeadRun.getT s))) = some (valM fn)) : e.map (fun s => (l s, q s, obsMG c fn (HandSHeadRun.getT s))) = some (true, good, valM fn) := by
  cases e with
  | none => cases h0
  | some s =>
    simp only [Option.map_some] at h0 hA hB ⊢
    have h0 := Option.some.inj h0
    have hA := Option.some.inj hA
    have hB := Option.some.inj hB
    have l1 : l s = true := congrArg (·.1) h0
    have q1 : q s = good := congrArg (·.2.1) h0
    rw [l1, q1]
    unfold obsM valM at hB
    unfold obsMG obsM valM
    rw [hA]
    rw [hB]
theorem run_parts {r : PySem.W.OpenRow} {q : Program} {fn : List He.FnD} {c : PySem.W.Frag → Bool} {m : Nat} {loose : List Str} {w : World} (h0 : HandSHeadRun.RunEq r q PySem.W.Hook.none (fun _ => ()) m loose w) (hA : PartEq r m w c)
    (hB : ∀ os : OsState, (HandSHeadRun.endF (HandSHeadRun.stepQ (HandSHeadRun.denQ HandSHeadRun.tabQ) r.prog w) m r.prog w os).map (fun s => obsM (fun _ => true) fn (frM (HandSHeadRun.getT s))) = some (valM fn)) :
    HandSHeadRun.RunEq r q (hookM c fn) (fun s => obsMG c fn (HandSHeadRun.getT s)) m loose w := fun os => run_join (h0 os) (hA os) (hB os)
theorem obs_app {l1 l2 : List He.FnD} {K : PySem.W.Frag} (h1 : obsM (fun _ => true) l1 K = valM l1) (h2 : obsM (fun _ => true) l2 K = valM l2) : obsM (fun _ => true) (l1 ++ l2) K = valM (l1 ++ l2) := by
  unfold obsM valM at h1 h2 ⊢
  have a1 := congrArg (·.1) h1
  have a2 := congrArg (·.1) h2
  have b1 := congrArg (·.2) h1
  have b2 := congrArg (·.2) h2
  simp only [Bool.true_and] at a1 a2 b1 b2 ⊢
  rw [List.all_append, a1, a2, List.map_append, List.map_append, b1, b2]
  rfl
theorem run_two {β : Type} {e : Option β} {f : β → PySem.W.Frag} {l1 l2 : List He.FnD} (h1 : e.map (fun s => obsM (fun _ => true) l1 (f s)) = some (valM l1)) (h2 : e.map (fun s => obsM (fun _ => true) l2 (f s)) = some (valM l2)) :
    e.map (fun s => obsM (fun _ => true) (l1 ++ l2) (f s)) = some (valM (l1 ++ l2)) := by
  cases e with
  | none => cases h1
  | some s =>
    simp only [Option.map_some] at h1 h2 ⊢
    rw [obs_app (Option.some.inj h1) (Option.some.inj h2)]
end M
end
section
set_option Elab.async false
set_option linter.all false
set_option maxRecDepth 100000
set_option autoImplicit false
/-! Sem33: the law's own def, its promise over any heap. -/
namespace M
open PySem PySem.Spec PyProof.Rows L2
theorem law_fd {P : Program} {w : World} {K : PySem.W.Frag} {mg : Str → Option Value} {fnl : List He.FnD} {chk : PySem.W.Frag → Bool} {k Nf n : Nat} {md : Bool} {irs : List S} {ck : Ck} {ps : List Str} {G : Pg} {s : Stmt} {at_ : Str × Option Str} {name qual : Str} (c : SaysM chk fnl K) (hd : fdN s at_ name qual ∈ fnl) (hsc : ck.sc = defScope s)
    (hS : scB ck.N ps (defScope s) = true) (hb : BindP s name qual ps) (hdf : ck.df = true) (hG : ∀ base : Heap, K.In base → base.Ns mainGlobals mg → ∀ fr wx, Gok ⟨P, w, K, mg, base⟩ k ⟨wlOf K, G, fr, wx⟩ ck) (hok : chkSs n ck (defBody s) irs = true) :
    ∃ fd, (∀ (s : Shared) (us : List Value), us.length = ps.length → BindsTo s fd ⟨us, []⟩ (ps.zip us)) ∧ ∀ base : Heap, K.In base → base.Ns mainGlobals mg → FnG ⟨P, w, K, mg, base⟩ (k + 1) (He.fAd K at_) fd ps (spM (wlOf K) (runF G Nf md ck.N.length ps.length irs)) := by
  obtain ⟨oc, od, osl, kV, doc, pm, an, cdv, ct, lk, hcd⟩ := c.def_ hd
  refine ⟨_, ?_, fun base X Gn => fnG_chk (ck := ck) (by rw [hsc]; exact lk) hcd (by rw [hsc]; exact scB_ok hS) rfl hdf (hG base X Gn) hok⟩
  intro s us hl
  rw [hsc]
  exact .of_eq (hb kV doc pm an cdv ct us hl)
end M
end
section
set_option Elab.async false
set_option linter.all false
set_option maxRecDepth 100000
set_option maxHeartbeats 0
set_option autoImplicit false
namespace M.K90
open PySem PySem.Spec PyProof.Rows L2
theorem run (w : World) : HandSHeadRun.RunEq R qv (hookM (tabOk tb) fnl) (fun s => obsMG (tabOk tb) fnl (HandSHeadRun.getT s)) 40000 names w := run_parts (part0 w) (partA w) fun os => run_two (partB1 w os) (partB2 w os)
theorem ob_eq (s : PySem.W.SharedT) : obsMG (tabOk tb) fnl (HandSHeadRun.getT s) = (hookM (tabOk tb) fnl).obs s.abs := obsMG_eq (HandSHeadRun.getT_eq s)
end M.K90
end
section
set_option Elab.async false
set_option linter.all false
set_option maxRecDepth 10000
set_option autoImplicit false
/-! P0: the pen of draws. -/
namespace M
abbrev kCells : Va := .str [99, 101, 108, 108, 115]
abbrev kAt : Va := .str [97, 116]
abbrev kDigits : Va := .str [100, 105, 103, 105, 116, 115]
abbrev kCount : Va := .str [99, 111, 117, 110, 116]
abbrev kFold : Va := .str [102, 111, 108, 100]
structure Pn where
  cells : List Int
  a : Int
  d : Int
  c : Int
  f : Int
def penD (p : Pn) : List (Va × Va) := [(kCells, .lst (p.cells.map .int)), (kAt, .int p.a), (kDigits, .int p.d), (kCount, .int p.c), (kFold, .int p.f)]
section
variable (p : Pn) (v : Int)
@[simp] theorem get_cells : getK (penD p) kCells = some (.lst (p.cells.map .int)) := rfl
@[simp] theorem get_at : getK (penD p) kAt = some (.int p.a) := rfl
@[simp] theorem get_digits : getK (penD p) kDigits = some (.int p.d) := rfl
@[simp] theorem get_count : getK (penD p) kCount = some (.int p.c) := rfl
@[simp] theorem get_fold : getK (penD p) kFold = some (.int p.f) := rfl
@[simp] theorem put_at : putK (penD p) kAt (.int v) = penD { p with a := v } := rfl
@[simp] theorem put_digits : putK (penD p) kDigits (.int v) = penD { p with d := v } := rfl
@[simp] theorem put_count : putK (penD p) kCount (.int v) = penD { p with c := v } := rfl
@[simp] theorem put_fold : putK (penD p) kFold (.int v) = penD { p with f := v } := rfl
@[simp] theorem len_pen : (penD p).length = 5 := rfl
end
end M
end
section
set_option Elab.async false
set_option linter.all false
set_option maxRecDepth 10000
set_option maxHeartbeats 2000000
set_option autoImplicit false
/-! P1: a draw. -/
namespace M
def drawIR : List S := [.asg (.ix (.var 0) (.con (.str [99, 111, 117, 110, 116]))) (.bin .add (.idx (.var 0) (.con (.str [99, 111, 117, 110, 116]))) (.con (.int 1))),
  .ifs (.and (.cmp .eq (.idx (.var 0) (.con (.str [100, 105, 103, 105, 116, 115]))) (.con (.int 0))) (.cmp .lt (.idx (.var 0) (.con (.str [97, 116]))) (.bi .len [.idx (.var 0) (.con (.str [99, 101, 108, 108, 115]))]))) [.asg (.nm 3) (.idx (.idx (.var 0) (.con (.str [99, 101, 108, 108, 115]))) (.idx (.var 0) (.con (.str [97, 116])))), .asg (.ix (.var 0) (.con (.str [97, 116]))) (.bin .add (.idx (.var 0) (.con (.str [97, 116]))) (.con (.int 1))), .ifs (.cmp .ge (.var 3) (.bin .pow (.con (.int 10)) (.con (.int 18)))) [.asg (.ix (.var 0) (.con (.str [100, 105, 103, 105, 116, 115]))) (.bin .sub (.var 3) (.bin .pow (.con (.int 10)) (.con (.int 18))))] [.asg (.ix (.var 0) (.con (.str [102, 111, 108, 100]))) (.bin .mod (.bi .int [.bin .add (.bin .mul (.idx (.var 0) (.con (.str [102, 111, 108, 100]))) (.con (.int 31721))) (.var 3)]) (.con (.int 2147483237)))]] [],
  .ifs (.cmp .gt (.idx (.var 0) (.con (.str [100, 105, 103, 105, 116, 115]))) (.con (.int 0))) [.asg (.nm 4) (.bin .mod (.bi .int [.idx (.var 0) (.con (.str [100, 105, 103, 105, 116, 115]))]) (.var 1)), .asg (.ix (.var 0) (.con (.str [100, 105, 103, 105, 116, 115]))) (.bin .fdiv (.idx (.var 0) (.con (.str [100, 105, 103, 105, 116, 115]))) (.var 1)), .ret (.var 4)] [],
  .asg (.nm 2) (.bin .add (.bin .add (.idx (.var 0) (.con (.str [102, 111, 108, 100]))) (.bin .mul (.idx (.var 0) (.con (.str [99, 111, 117, 110, 116]))) (.con (.int 6947)))) (.con (.int 127))),
  .ret (.bin .mod (.bin .fdiv (.bi .int [.bin .mod (.bin .pow (.var 2) (.con (.int 43))) (.con (.int 2305843009213693951))]) (.con (.int 1024))) (.var 1))]
theorem rd_ref_dct {st : Sto} {n : Nat} {d : List (Va × Va)} (h : st[n]? = some (.dct d)) : rd st (.ref n) = .dct d := by simp [rd, h]
theorem get_set {st : Sto} {n : Nat} {o o' : Ob} (h : st[n]? = some o) : (st.set n o')[n]? = some o' := List.getElem?_set_self (List.getElem?_eq_some_iff.mp h).1
structure POk (p : Pn) : Prop where
  a : 0 ≤ p.a
  d : 0 ≤ p.d
  c : 0 ≤ p.c
  f : 0 ≤ p.f
  f2 : p.f < 2147483648
section
variable {G : Pg} {N : Nat} {fr : Fr} {st : Sto} {n : Nat} {p : Pn} {ρ : Sl}
/-- pen[key] -/
theorem ev_pen {k v : Va} (h : st[n]? = some (.dct (penD p))) (h0 : ρ[0]? = some (some (.ref n))) (hk : isKey k = true) (hv : getK (penD p) k = some v) : evE G fr (.idx (.var 0) (.con k)) ρ st = .ok v st := by
  simp [evE, h0, rd_ref_dct h, idxop, hk, hv]
/-- pen[key] = e -/
theorem ev_put {k v : Va} {e : E} {p' : Pn} (h : st[n]? = some (.dct (penD p))) (h0 : ρ[0]? = some (some (.ref n))) (hk : isKey k = true) (he : evE G fr e ρ st = .ok v st) (hp : putK (penD p) k v = penD p') :
    evS G N fr (.asg (.ix (.var 0) (.con k)) e) ρ st = .ok .nx (ρ, st.set n (.dct (penD p'))) := by
  simp [evS, he, evTg, evE, h0, setItemV, rd_ref_dct h, hk, hp, small, Lm]
end
theorem cmp_eqI {G : Pg} {st : Sto} {i j : Int} : cmpV G .eq st (.int i) (.int j) = some (decide (i = j)) := by simp [cmpV, idq, eqv?, dat, rd, veq]
theorem cmp_ltI {G : Pg} {st : Sto} {i j : Int} : cmpV G .lt st (.int i) (.int j) = some (decide (i < j)) := by simp [cmpV, cmpop, rd]
theorem cmp_gtI {G : Pg} {st : Sto} {i j : Int} : cmpV G .gt st (.int i) (.int j) = some (decide (j < i)) := by simp [cmpV, cmpop, rd]
theorem cmp_geI {G : Pg} {st : Sto} {i j : Int} : cmpV G .ge st (.int i) (.int j) = some (decide (j ≤ i)) := by simp [cmpV, cmpop, rd]
section
variable {G : Pg} {N : Nat} {fr : Fr} {st : Sto} {n : Nat} {p : Pn} {ρ : Sl}
theorem ev_add {a b : E} {i j : Int} {st1 st2 : Sto} (ha : evE G fr a ρ st = .ok (.int i) st1) (hb : evE G fr b ρ st1 = .ok (.int j) st2) : evE G fr (.bin .add a b) ρ st = .ok (.int (i + j)) st2 := by simp [evE, ha, hb, binop, addV, rd]
theorem ev_sub {a b : E} {i j : Int} {st1 st2 : Sto} (ha : evE G fr a ρ st = .ok (.int i) st1) (hb : evE G fr b ρ st1 = .ok (.int j) st2) : evE G fr (.bin .sub a b) ρ st = .ok (.int (i - j)) st2 := by simp [evE, ha, hb, binop, subV, rd]
theorem ev_mul {a b : E} {i j : Int} {st1 st2 : Sto} (ha : evE G fr a ρ st = .ok (.int i) st1) (hb : evE G fr b ρ st1 = .ok (.int j) st2) (h : (big i || big j || (wide i && wide j)) = true) : evE G fr (.bin .mul a b) ρ st = .ok (.int (i * j)) st2 := by simp only [evE, ha, hb, R.bind_ok, binop, mulV, rd, h, if_true, R.of_some]
theorem ev_mod {a b : E} {i j : Int} {st1 st2 : Sto} (ha : evE G fr a ρ st = .ok (.int i) st1) (hb : evE G fr b ρ st1 = .ok (.int j) st2) (h : 0 < j) : evE G fr (.bin .mod a b) ρ st = .ok (.int (i % j)) st2 := by simp [evE, ha, hb, binop, modV, rd, h]
theorem ev_div {a b : E} {i j : Int} {st1 st2 : Sto} (ha : evE G fr a ρ st = .ok (.int i) st1) (hb : evE G fr b ρ st1 = .ok (.int j) st2) (h : 0 < j) (h2 : wide j = true) : evE G fr (.bin .fdiv a b) ρ st = .ok (.int (i / j)) st2 := by simp [evE, ha, hb, binop, fdivV, rd, h, h2]
theorem ev_pow {a b : E} {i j : Int} {st1 st2 : Sto} (ha : evE G fr a ρ st = .ok (.int i) st1) (hb : evE G fr b ρ st1 = .ok (.int j) st2) (h : 0 ≤ j) (h1 : j ≤ 1000000) (h2 : big i = true) : evE G fr (.bin .pow a b) ρ st = .ok (.int (i ^ j.toNat)) st2 := by simp [evE, ha, hb, binop, powV, rd, h, h1, h2]
theorem ev_int {a : E} {i : Int} {st1 : Sto} (ha : evE G fr a ρ st = .ok (.int i) st1) : evE G fr (.bi .int [a]) ρ st = .ok (.int i) st1 := by simp [evE, evEs, ha, biop, bi1, intV, rd]
theorem ev_con {v : Va} : evE G fr (.con v) ρ st = .ok v st := by rw [evE]
theorem ev_var {i : Nat} {v : Va} (h : ρ[i]? = some (some v)) : evE G fr (.var i) ρ st = .ok v st := by simp [evE, h]
theorem ev_asg {i : Nat} {e : E} {v : Va} {st1 : Sto} (he : evE G fr e ρ st = .ok v st1) : evS G N fr (.asg (.nm i) e) ρ st = .ok .nx (ρ.set i (some v), st1) := by simp [evS, he, evTg]
theorem ev_ret {e : E} {v : Va} {st1 : Sto} (he : evE G fr e ρ st = .ok v st1) : evS G N fr (.ret e) ρ st = .ok (.ret v) (ρ, st1) := by simp [evS, he]
theorem ev_cons {s : S} {r : List S} {ρ' : Sl} {st1 : Sto} (h : evS G N fr s ρ st = .ok .nx (ρ', st1)) : evSs G N fr (s :: r) ρ st = evSs G N fr r ρ' st1 := by rw [evSs, h]; rfl
theorem ev_consR {s : S} {r : List S} {ρ' : Sl} {st1 : Sto} {v : Va} (h : evS G N fr s ρ st = .ok (.ret v) (ρ', st1)) : evSs G N fr (s :: r) ρ st = .ok (.ret v) (ρ', st1) := by rw [evSs, h]; rfl
theorem ev_ifT {c : E} {a b : List S} {st1 : Sto} (h : evE G fr c ρ st = .ok (.bl true) st1) : evS G N fr (.ifs c a b) ρ st = evSs G N fr a ρ st1 := by simp [evS, h, truth]
theorem ev_ifF {c : E} {a b : List S} {st1 : Sto} (h : evE G fr c ρ st = .ok (.bl false) st1) : evS G N fr (.ifs c a b) ρ st = evSs G N fr b ρ st1 := by simp [evS, h, truth]
theorem ev_nil : evSs G N fr [] ρ st = .ok .nx (ρ, st) := by rw [evSs]
theorem ev_cmp {op : Cop} {a b : E} {x y : Va} {t : Bool} {st1 st2 : Sto} (ha : evE G fr a ρ st = .ok x st1) (hb : evE G fr b ρ st1 = .ok y st2) (h : cmpV G op st2 x y = some t) : evE G fr (.cmp op a b) ρ st = .ok (.bl t) st2 := by simp [evE, ha, hb, h]
theorem ev_and {a b : E} {x y : Bool} {st1 st2 : Sto} (ha : evE G fr a ρ st = .ok (.bl x) st1) (hb : x = true → evE G fr b ρ st1 = .ok (.bl y) st2) (h2 : x = false → st2 = st1) : evE G fr (.and a b) ρ st = .ok (.bl (x && y)) st2 := by
  cases x with
  | true => simp [evE, ha, truth, hb rfl]
  | false => simp [evE, ha, truth, h2 rfl]
theorem ev_len {a : E} {x : List Va} {st1 : Sto} {v : Va} (ha : evE G fr a ρ st = .ok v st1) (hv : rd st1 v = .lst x) : evE G fr (.bi .len [a]) ρ st = .ok (.int x.length) st1 := by simp [evE, evEs, ha, biop, bi1, lenV, hv]
theorem ev_idx {a b : E} {x y z : Va} {st1 st2 : Sto} (ha : evE G fr a ρ st = .ok x st1) (hb : evE G fr b ρ st1 = .ok y st2) (h : idxop (rd st2 x) y = some z) : evE G fr (.idx a b) ρ st = .ok z st2 := by simp [evE, ha, hb, h]
end
theorem big_of {i : Int} (h0 : 0 ≤ i) (h : i < 2 ^ 64) : big i = true := by unfold big; exact decide_eq_true (by omega)
theorem wide_of {i : Int} (h : 0 < i) (h2 : i < 2 ^ 30) : wide i = true := by
  unfold wide
  refine decide_eq_true ?_
  have : i.natAbs < 2 ^ 30 := by omega
  exact Nat.lt_of_lt_of_le this (Nat.pow_le_pow_right (by decide) (by decide))
theorem seqI_in {l : Nat} {i : Int} (h0 : 0 ≤ i) (h : i < l) : seqI l i = some i.toNat := by unfold seqI; rw [if_pos h0, if_pos h]
theorem idx_in {l : List Va} {i : Int} (h0 : 0 ≤ i) (h : i < l.length) : ∃ v, idxop (.lst l) (.int i) = some v ∧ l[i.toNat]? = some v := by
  have hi : i.toNat < l.length := by omega
  refine ⟨l[i.toNat], ?_, List.getElem?_eq_getElem hi⟩
  simp only [idxop, seqI_in h0 h, Option.bind_some]
  exact List.getElem?_eq_getElem hi
/-- the last draw's number -/
theorem draw_end {G : Pg} {N : Nat} {fr : Fr} {st : Sto} {n : Nat} {p : Pn} {ρ : Sl} {many : Int} (h : st[n]? = some (.dct (penD p))) (h0 : ρ[0]? = some (some (.ref n))) (h1 : ρ[1]? = some (some (.int many))) (hl : 2 < ρ.length) (ok : POk p) (hc : p.c < 2 ^ 40) (hm : 0 < many) :
    ∃ r ρ', evSs G N fr (drawIR.drop 3) ρ st = .ok (.ret (.int r)) (ρ', st) ∧ 0 ≤ r ∧ r < many := by
  obtain ⟨ha, hd, hc0, hf, hf2⟩ := ok
  have e1 : evE G fr (.bin .add (.bin .add (.idx (.var 0) (.con kFold)) (.bin .mul (.idx (.var 0) (.con kCount)) (.con (.int 6947)))) (.con (.int 127))) ρ st = .ok (.int (p.f + p.c * 6947 + 127)) st :=
    ev_add (ev_add (ev_pen h h0 rfl (get_fold p)) (ev_mul (ev_pen h h0 rfl (get_count p)) ev_con (by rw [big_of hc0 (by omega)]; rfl))) ev_con
  have e2 : (ρ.set 2 (some (.int (p.f + p.c * 6947 + 127))))[2]? = some (some (.int (p.f + p.c * 6947 + 127))) := List.getElem?_set_self hl
  have e3 : (ρ.set 2 (some (.int (p.f + p.c * 6947 + 127))))[1]? = some (some (.int many)) := by rw [List.getElem?_set_ne (by decide)]; exact h1
  refine ⟨_, _, (ev_cons (ev_asg e1)).trans (ev_consR (ev_ret (ev_mod (ev_div (ev_int (ev_mod (ev_pow (ev_var e2) ev_con (by decide) (by decide) (big_of (by omega) (by omega))) ev_con (by decide))) ev_con (by decide) (wide_of (by decide) (by decide))) (ev_var e3) hm))), Int.emod_nonneg _ (by omega), Int.emod_lt_of_pos _ hm⟩
end M
namespace M
/-- behind the first pull -/
theorem draw_mid {G : Pg} {N : Nat} {fr : Fr} {st : Sto} {n : Nat} {p : Pn} {ρ : Sl} {many : Int} (h : st[n]? = some (.dct (penD p))) (h0 : ρ[0]? = some (some (.ref n))) (h1 : ρ[1]? = some (some (.int many))) (hl : 4 < ρ.length) (ok : POk p) (hc : p.c < 2 ^ 40) (hm : 0 < many) (hm2 : many < 2 ^ 30) :
    ∃ r ρ' p', evSs G N fr (drawIR.drop 2) ρ st = .ok (.ret (.int r)) (ρ', st.set n (.dct (penD p'))) ∧ 0 ≤ r ∧ r < many ∧ POk p' ∧ p'.c = p.c ∧ p'.cells = p.cells := by
  have ec : evE G fr (.cmp .gt (.idx (.var 0) (.con kDigits)) (.con (.int 0))) ρ st = .ok (.bl (decide (0 < p.d))) st := ev_cmp (ev_pen h h0 rfl (get_digits p)) ev_con cmp_gtI
  by_cases hd : 0 < p.d
  · rw [decide_eq_true hd] at ec
    have e1 := ev_asg (N := N) (i := 4) (ev_mod (G := G) (fr := fr) (ev_int (ev_pen h h0 rfl (get_digits p))) (ev_var h1) hm)
    have h0' : (ρ.set 4 (some (.int (p.d % many))))[0]? = some (some (.ref n)) := by rw [List.getElem?_set_ne (by decide)]; exact h0
    have h1' : (ρ.set 4 (some (.int (p.d % many))))[1]? = some (some (.int many)) := by rw [List.getElem?_set_ne (by decide)]; exact h1
    have h4' : (ρ.set 4 (some (.int (p.d % many))))[4]? = some (some (.int (p.d % many))) := List.getElem?_set_self hl
    have e2 := ev_put (G := G) (N := N) (fr := fr) h h0' rfl (ev_div (ev_pen h h0' rfl (get_digits p)) (ev_var h1') hm (wide_of hm hm2)) (put_digits p _)
    exact ⟨p.d % many, _, { p with d := p.d / many }, ev_consR ((ev_ifT ec).trans ((ev_cons e1).trans ((ev_cons e2).trans (ev_consR (ev_ret (ev_var h4')))))), Int.emod_nonneg _ (by omega), Int.emod_lt_of_pos _ hm, ⟨ok.a, Int.ediv_nonneg ok.d (by omega), ok.c, ok.f, ok.f2⟩, rfl, rfl⟩
  · rw [decide_eq_false hd] at ec
    obtain ⟨r, ρ', e, hr⟩ := draw_end (G := G) (N := N) (fr := fr) h h0 h1 (by omega) ok hc hm
    have hs : st.set n (.dct (penD p)) = st := by
      apply List.ext_getElem?
      intro i
      by_cases q : i = n
      · subst q; rw [get_set h, h]
      · rw [List.getElem?_set_ne (Ne.symm q)]
    refine ⟨r, ρ', p, ?_, hr.1, hr.2, ok, rfl, rfl⟩
    rw [hs]
    exact (ev_cons ((ev_ifF ec).trans ev_nil)).trans e
theorem set_set {st : Sto} {n : Nat} {o o' : Ob} : (st.set n o).set n o' = st.set n o' := by rw [List.set_set]
/-- a draw: a number below many -/
theorem draw_ok {G : Pg} {N : Nat} {fr : Fr} {st : Sto} {n : Nat} {p : Pn} {many : Int} (h : st[n]? = some (.dct (penD p))) (ok : POk p) (hc : p.c < 2 ^ 39) (hm : 0 < many) (hm2 : many < 2 ^ 30) :
    ∃ r p', runF G N false 5 2 drawIR fr [.ref n, .int many] st = .ok (.int r) (st.set n (.dct (penD p'))) ∧ 0 ≤ r ∧ r < many ∧ POk p' ∧ p'.c = p.c + 1 ∧ p'.cells = p.cells := by
  generalize hρ : ([some (.ref n), some (.int many), none, none, none] : Sl) = ρ
  have h0 : ρ[0]? = some (some (.ref n)) := by rw [← hρ]; rfl
  have h1 : ρ[1]? = some (some (.int many)) := by rw [← hρ]; rfl
  have hl : ρ.length = 5 := by rw [← hρ]; rfl
  -- the count
  have e1 := ev_put (G := G) (N := N) (fr := fr) h h0 rfl (ev_add (ev_pen h h0 rfl (get_count p)) ev_con) (put_count p (p.c + 1))
  have hq := get_set (o' := .dct (penD { p with c := p.c + 1 })) h
  have okq : POk { p with c := p.c + 1 } := ⟨ok.a, ok.d, by have := ok.c; simp only; omega, ok.f, ok.f2⟩
  generalize hst : st.set n (.dct (penD { p with c := p.c + 1 })) = st1 at e1 hq
  generalize hpq : { p with c := p.c + 1 } = p1 at hq okq
  have c1 : p1.c = p.c + 1 := by rw [← hpq]
  have cc1 : p1.cells = p.cells := by rw [← hpq]
  have fin : ∀ (ρ2 : Sl) (st2 : Sto) (p2 : Pn), st2 = st1.set n (.dct (penD p2)) → ρ2[0]? = some (some (.ref n)) → ρ2[1]? = some (some (.int many)) → 4 < ρ2.length → POk p2 → p2.c = p1.c → p2.cells = p1.cells →
      ∃ r ρ' p', evSs G N fr (drawIR.drop 2) ρ2 st2 = .ok (.ret (.int r)) (ρ', st.set n (.dct (penD p'))) ∧ 0 ≤ r ∧ r < many ∧ POk p' ∧ p'.c = p.c + 1 ∧ p'.cells = p.cells := fun ρ2 st2 p2 e k0 k1 kl ok2 kc kk => by
    obtain ⟨r, ρ', p', q1, q2, q3, q4, q5, q6⟩ := draw_mid (G := G) (N := N) (fr := fr) (p := p2) (st := st2) (by rw [e]; exact get_set hq) k0 k1 kl ok2 (by omega) hm hm2
    refine ⟨r, ρ', p', ?_, q2, q3, q4, by omega, by rw [q6, kk, cc1]⟩
    rw [q1, e, set_set, ← hst, set_set]
  have run : ∀ {r : Int} {ρ' : Sl} {s : Sto}, evSs G N fr drawIR ρ st = .ok (.ret (.int r)) (ρ', s) → runF G N false 5 2 drawIR fr [.ref n, .int many] st = .ok (.int r) s := fun {r ρ' s} e => by
    unfold runF
    rw [if_pos (show [Va.ref n, Va.int many].length = 2 from rfl), show (List.map some [Va.ref n, Va.int many] ++ List.replicate (5 - 2) none) = ρ from hρ, e]
    rfl
  have hs1 : st1 = st1.set n (.dct (penD p1)) := by rw [← hst, set_set, hpq]
  -- is a cell pulled
  have ed := ev_cmp (G := G) (fr := fr) (op := .eq) (ev_pen hq h0 rfl (get_digits p1)) (ev_con (v := .int 0)) cmp_eqI
  have el := ev_cmp (G := G) (fr := fr) (op := .lt) (ev_pen hq h0 rfl (get_at p1)) (ev_len (ev_pen hq h0 rfl (get_cells p1)) rfl) cmp_ltI
  have ea := ev_and ed (fun _ => el) (fun _ => rfl)
  by_cases hb : (decide (p1.d = 0) && decide (p1.a < ((p1.cells.map Va.int).length : Nat))) = true
  · rw [hb] at ea
    rw [Bool.and_eq_true, decide_eq_true_eq, decide_eq_true_eq] at hb
    obtain ⟨hd, hlt⟩ := hb
    obtain ⟨v, ev, hv⟩ := idx_in okq.a hlt
    obtain ⟨cell, rfl⟩ : ∃ c, v = .int c := by
      rw [List.getElem?_map] at hv
      cases e : p1.cells[p1.a.toNat]? with
      | none => rw [e] at hv; cases hv
      | some c => rw [e] at hv; cases hv; exact ⟨c, rfl⟩
    have s1 := ev_asg (N := N) (i := 3) (ev_idx (G := G) (fr := fr) (ev_pen hq h0 rfl (get_cells p1)) (ev_pen hq h0 rfl (get_at p1)) ev)
    generalize hρ3 : ρ.set 3 (some (.int cell)) = ρ3 at s1
    have k0 : ρ3[0]? = some (some (.ref n)) := by rw [← hρ3, List.getElem?_set_ne (by decide)]; exact h0
    have k1 : ρ3[1]? = some (some (.int many)) := by rw [← hρ3, List.getElem?_set_ne (by decide)]; exact h1
    have k3 : ρ3[3]? = some (some (.int cell)) := by rw [← hρ3]; exact List.getElem?_set_self (by omega)
    have kl : 4 < ρ3.length := by rw [← hρ3, List.length_set]; omega
    have s2 := ev_put (G := G) (N := N) (fr := fr) hq k0 rfl (ev_add (ev_pen hq k0 rfl (get_at p1)) ev_con) (put_at p1 (p1.a + 1))
    have hq2 := get_set (o' := .dct (penD { p1 with a := p1.a + 1 })) hq
    have ok2 : POk { p1 with a := p1.a + 1 } := ⟨by have := okq.a; simp only; omega, okq.d, okq.c, okq.f, okq.f2⟩
    generalize hst2 : st1.set n (.dct (penD { p1 with a := p1.a + 1 })) = st2 at s2 hq2
    generalize hp2 : { p1 with a := p1.a + 1 } = p2 at hq2 ok2 hst2
    have c2 : p2.c = p1.c := by rw [← hp2]
    have cc2 : p2.cells = p1.cells := by rw [← hp2]
    have eten : evE G fr (.bin .pow (.con (.int 10)) (.con (.int 18))) ρ3 st2 = .ok (.int (10 ^ 18)) st2 := ev_pow ev_con ev_con (by decide) (by decide) (by decide)
    have eg := ev_cmp (G := G) (fr := fr) (op := .ge) (ev_var (st := st2) k3) eten cmp_geI
    by_cases hg : (10 : Int) ^ 18 ≤ cell
    · rw [decide_eq_true hg] at eg
      have s3 := ev_put (G := G) (N := N) (fr := fr) hq2 k0 rfl (ev_sub (ev_var k3) eten) (put_digits p2 (cell - 10 ^ 18))
      have hs3 : st2.set n (.dct (penD { p2 with d := cell - 10 ^ 18 })) = st1.set n (.dct (penD { p2 with d := cell - 10 ^ 18 })) := by rw [← hst2, set_set]
      obtain ⟨r, ρ', p', q, hr⟩ := fin ρ3 _ { p2 with d := cell - 10 ^ 18 } hs3 k0 k1 kl ⟨ok2.a, by simp only; omega, ok2.c, ok2.f, ok2.f2⟩ c2 cc2
      refine ⟨r, p', run ((ev_cons e1).trans ((ev_cons ((ev_ifT ea).trans ((ev_cons s1).trans ((ev_cons s2).trans ((ev_cons ((ev_ifT eg).trans ((ev_cons s3).trans ev_nil))).trans ev_nil))))).trans q)), hr⟩
    · rw [decide_eq_false hg] at eg
      have s3 := ev_put (G := G) (N := N) (fr := fr) hq2 k0 rfl (ev_mod (ev_int (ev_add (ev_mul (ev_pen hq2 k0 rfl (get_fold p2)) (ev_con (v := .int 31721)) (by rw [big_of ok2.f (by have := ok2.f2; omega)]; rfl)) (ev_var k3))) (ev_con (v := .int 2147483237)) (by decide)) (put_fold p2 ((p2.f * 31721 + cell) % 2147483237))
      have hs3 : st2.set n (.dct (penD { p2 with f := (p2.f * 31721 + cell) % 2147483237 })) = st1.set n (.dct (penD { p2 with f := (p2.f * 31721 + cell) % 2147483237 })) := by rw [← hst2, set_set]
      obtain ⟨r, ρ', p', q, hr⟩ := fin ρ3 _ { p2 with f := (p2.f * 31721 + cell) % 2147483237 } hs3 k0 k1 kl ⟨ok2.a, ok2.d, ok2.c, Int.emod_nonneg _ (by decide), Int.lt_trans (Int.emod_lt_of_pos _ (by decide)) (by decide)⟩ c2 cc2
      refine ⟨r, p', run ((ev_cons e1).trans ((ev_cons ((ev_ifT ea).trans ((ev_cons s1).trans ((ev_cons s2).trans ((ev_cons ((ev_ifF eg).trans ((ev_cons s3).trans ev_nil))).trans ev_nil))))).trans q)), hr⟩
  · rw [Bool.eq_false_iff.mpr hb] at ea
    obtain ⟨r, ρ', p', q, hr⟩ := fin ρ st1 p1 hs1 h0 h1 (by omega) okq rfl rfl
    exact ⟨r, p', run ((ev_cons e1).trans ((ev_cons ((ev_ifF ea).trans ev_nil)).trans q)), hr⟩
end M
end
section
set_option Elab.async false
set_option linter.all false
set_option maxRecDepth 10000
set_option maxHeartbeats 2000000
set_option autoImplicit false
/-! P2: loops, the pen, pick. -/
namespace M
theorem forL_inv {w : Va} {all : List Va} (hw : ∀ st, row? (rd st w) = some all) {f : Va → Sl → Sto → RS} (P : Nat → Sl → Sto → Prop)
    (step : ∀ i x ρ st, all[i]? = some x → P i ρ st → ∃ ρ' st', f x ρ st = .ok .nx (ρ', st') ∧ P (i + 1) ρ' st') : ∀ (m k : Nat) (ρ : Sl) (st : Sto), m + k = all.length → P k ρ st → ∃ ρ' st', forL w all f (all.drop k) ρ st = .ok .nx (ρ', st') ∧ P all.length ρ' st'
  | 0, k, ρ, st, e, p => by
    obtain rfl : k = all.length := by omega
    rw [List.drop_length, forL, if_pos (show still st w all from hw st)]
    exact ⟨ρ, st, rfl, p⟩
  | m + 1, k, ρ, st, e, p => by
    have hk : k < all.length := by omega
    obtain ⟨ρ1, st1, e1, p1⟩ := step k all[k] ρ st (List.getElem?_eq_getElem hk) p
    obtain ⟨ρ2, st2, e2, p2⟩ := forL_inv hw P step m (k + 1) ρ1 st1 (by omega) p1
    refine ⟨ρ2, st2, ?_, p2⟩
    rw [List.drop_eq_getElem_cons hk, forL, if_pos (show still st w all from hw st), e1]
    exact e2
theorem compL_inv {w : Va} {all : List Va} (hw : ∀ st, row? (rd st w) = some all) {f : Va → Sto → R Sto (Option Va)} (P : Nat → List Va → Sto → Prop)
    (step : ∀ i x acc st, all[i]? = some x → P i acc st → ∃ v st', f x st = .ok (some v) st' ∧ P (i + 1) (acc ++ [v]) st') : ∀ (m k : Nat) (acc : List Va) (st : Sto), m + k = all.length → P k acc st → ∃ l st', compL w all f (all.drop k) st = .ok l st' ∧ P all.length (acc ++ l) st'
  | 0, k, acc, st, e, p => by
    obtain rfl : k = all.length := by omega
    rw [List.drop_length, compL, if_pos (show still st w all from hw st)]
    exact ⟨[], st, rfl, by simpa using p⟩
  | m + 1, k, acc, st, e, p => by
    have hk : k < all.length := by omega
    obtain ⟨v, st1, e1, p1⟩ := step k all[k] acc st (List.getElem?_eq_getElem hk) p
    obtain ⟨l, st2, e2, p2⟩ := compL_inv hw P step m (k + 1) (acc ++ [v]) st1 (by omega) p1
    refine ⟨v :: l, st2, ?_, by simpa using p2⟩
    rw [List.drop_eq_getElem_cons hk, compL, if_pos (show still st w all from hw st), e1, R.bind_ok, e2]
    rfl
def penIR : List S := [.asg (.nm 1) (.con (.int 0)),
  .fors [2] true (.var 0) [.asg (.nm 1) (.bin .mod (.bi .int [.bin .add (.bin .mul (.var 1) (.con (.int 137))) (.var 2)]) (.con (.int 999999503)))],
  .ret (.dct true [.str [99, 101, 108, 108, 115], .str [97, 116], .str [100, 105, 103, 105, 116, 115], .str [99, 111, 117, 110, 116], .str [102, 111, 108, 100]] [.bi .list [.var 0], .con (.int 0), .con (.int 0), .con (.int 0), .var 1])]
theorem pen_ok {G : Pg} {N : Nat} {fr : Fr} {st : Sto} (ns : List Int) : ∃ p, runF G N false 3 1 penIR fr [.lck (ns.map .int)] st = .ok (.ref st.length) (st ++ [.dct (penD p)]) ∧ POk p ∧ p.c = 0 ∧ p.cells = ns := by
  have hw : ∀ st : Sto, row? (rd st (.lck (ns.map .int))) = some (ns.map .int) := fun _ => rfl
  obtain ⟨ρ1, st1, e1, p1⟩ := forL_inv hw (f := fun x ρ st => match bindTg st ρ [2] true x with
      | none => R.bad
      | some ρ1 => evSs G N fr [.asg (.nm 1) (.bin .mod (.bi .int [.bin .add (.bin .mul (.var 1) (.con (.int 137))) (.var 2)]) (.con (.int 999999503)))] ρ1 st)
    (fun i ρ s => s = st ∧ ρ.length = 3 ∧ ρ[0]? = some (some (.lck (ns.map .int))) ∧ ∃ f : Int, ρ[1]? = some (some (.int f)) ∧ 0 ≤ f ∧ f < 999999503) (fun i x ρ s hx ⟨es, hl, h0, f, h1, hf, hf2⟩ => by
      subst es
      obtain ⟨c, rfl⟩ : ∃ c, x = .int c := by
        rw [List.getElem?_map] at hx
        cases e : ns[i]? with
        | none => rw [e] at hx; cases hx
        | some c => rw [e] at hx; cases hx; exact ⟨c, rfl⟩
      have k1 : (ρ.set 2 (some (.int c)))[1]? = some (some (.int f)) := by rw [List.getElem?_set_ne (by decide)]; exact h1
      have k2 : (ρ.set 2 (some (.int c)))[2]? = some (some (.int c)) := List.getElem?_set_self (by omega)
      refine ⟨_, _, (ev_cons (ev_asg (ev_mod (ev_int (ev_add (ev_mul (ev_var k1) (ev_con (v := .int 137)) (by rw [big_of hf (by omega)]; rfl)) (ev_var k2))) (ev_con (v := .int 999999503)) (by decide)))).trans ev_nil, rfl, by simp [hl], ?_, (f * 137 + c) % 999999503, List.getElem?_set_self (by simp [hl]), Int.emod_nonneg _ (by decide), Int.emod_lt_of_pos _ (by decide)⟩
      rw [List.getElem?_set_ne (by decide), List.getElem?_set_ne (by decide)]; exact h0) (ns.map Va.int).length 0 [some (.lck (ns.map .int)), some (.int 0), none] st (by omega) ⟨rfl, rfl, rfl, 0, rfl, by decide, by decide⟩
  obtain ⟨rfl, hl, h0, f, h1, hf, hf2⟩ := p1
  refine ⟨⟨ns, 0, 0, 0, f⟩, ?_, ⟨Int.le_refl 0, Int.le_refl 0, Int.le_refl 0, hf, by simp only; omega⟩, rfl, rfl⟩
  unfold runF
  rw [if_pos (show [Va.lck (ns.map Va.int)].length = 1 from rfl)]
  have e2 : evSs G N fr penIR ([Va.lck (ns.map Va.int)].map some ++ List.replicate (3 - 1) none) st1 = .ok (.ret (.ref st1.length)) (ρ1, st1 ++ [.dct (penD ⟨ns, 0, 0, 0, f⟩)]) := by
    refine (ev_cons (ev_asg ev_con)).trans ((ev_cons (ρ' := ρ1) (st1 := st1) ?_).trans (ev_consR (ev_ret ?_)))
    · simp only [evS, evE, List.map_cons, List.map_nil, List.cons_append, List.nil_append, List.set_cons_succ, List.set_cons_zero, List.getElem?_cons_zero, Option.bind_some, id, R.of_some, lift_ok, R.bind_ok, rd, row?]
      have := e1
      rw [List.drop_zero] at this
      exact this
    · simp only [evE, evEs, h0, h1, Option.bind_some, id, R.of_some, R.bind_ok, List.map_cons, List.map_nil, biop, bi1, lstV, rd, row?, Option.map_some]
      rfl
  rw [e2]
  rfl
def pickIR : List S := [.ret (.idx (.var 1) (.call "_law_draw" [.var 0, .bi .len [.var 1]]))]
theorem ev_call {G : Pg} {fr : Fr} {ρ : Sl} {st st1 : Sto} {f : String} {F : Fs} {es : List E} {vs : List Va} {r : R Sto Va} (he : evEs G fr es ρ st = .ok vs st1) (hF : G.fn.lookup f = some F) (h : F (fr ++ [ρ]) vs st1 = r) : evE G fr (.call f es) ρ st = r := by
  simp only [evE, he, R.bind_ok, hF, h]
theorem ev_es2 {G : Pg} {fr : Fr} {ρ : Sl} {st st1 st2 : Sto} {a b : E} {v w : Va} (ha : evE G fr a ρ st = .ok v st1) (hb : evE G fr b ρ st1 = .ok w st2) : evEs G fr [a, b] ρ st = .ok [v, w] st2 := by simp [evEs, ha, hb]
theorem ev_es1 {G : Pg} {fr : Fr} {ρ : Sl} {st st1 : Sto} {a : E} {v : Va} (ha : evE G fr a ρ st = .ok v st1) : evEs G fr [a] ρ st = .ok [v] st1 := by simp [evEs, ha]
theorem ev_es0 {G : Pg} {fr : Fr} {ρ : Sl} {st : Sto} : evEs G fr [] ρ st = .ok [] st := by rw [evEs]
/-- the draw in the tables -/
noncomputable def drawF (g : Pg) : Fs := runF g 0 false 5 2 drawIR
theorem pick_ok {g0 G : Pg} {N : Nat} {fr : Fr} {st : Sto} {n : Nat} {p : Pn} {l : List Va} (hG : G.fn.lookup "_law_draw" = some (drawF g0)) (h : st[n]? = some (.dct (penD p))) (ok : POk p) (hc : p.c < 2 ^ 39) (h0 : l ≠ []) (hl : l.length < 2 ^ 30) :
    ∃ v p', runF G N false 2 2 pickIR fr [.ref n, .lst l] st = .ok v (st.set n (.dct (penD p'))) ∧ v ∈ l ∧ POk p' ∧ p'.c = p.c + 1 ∧ p'.cells = p.cells := by
  have hpos : 0 < l.length := List.length_pos_iff.mpr h0
  obtain ⟨r, p', e, hr0, hr, okp, hcp, hcl⟩ := draw_ok (G := g0) (N := 0) (fr := fr ++ [[some (.ref n), some (.lst l)]]) (many := (l.length : Int)) h ok hc (by omega) (by omega)
  obtain ⟨v, ev, hv⟩ := idx_in hr0 hr
  refine ⟨v, p', ?_, List.mem_of_getElem? hv, okp, hcp, hcl⟩
  unfold runF
  rw [if_pos (show [Va.ref n, Va.lst l].length = 2 from rfl)]
  have e2 : evSs G N fr pickIR ([Va.ref n, Va.lst l].map some ++ List.replicate (2 - 2) none) st = .ok (.ret v) ([some (.ref n), some (.lst l)], st.set n (.dct (penD p'))) :=
    ev_consR (ev_ret (ev_idx (ev_var rfl) (ev_call (ev_es2 (ev_var rfl) (ev_len (ev_var rfl) rfl)) hG e) ev))
  rw [e2]
  rfl
end M
end
section
set_option Elab.async false
set_option linter.all false
set_option maxRecDepth 10000
set_option maxHeartbeats 2000000
set_option autoImplicit false
/-! P3: copied values, objects made of them. -/
namespace M
variable {g0 : Pg}
/-- a plain value that stands by value -/
def good : Va → Bool
  | .non | .bl _ | .int _ | .str _ | .tup _ | .lst _ | .dct _ => true
  | _ => false
/-- a list as a tuple -/
def cp : Va → Va
  | .lst xs => .tup xs
  | v => v
def isL : Va → Bool
  | .lst _ => true
  | _ => false
theorem rd_good {st : Sto} {v : Va} (h : good v = true) : rd st v = v := by cases v <;> first | rfl | cases h
def copIR : List S := [.ret (.ite (.isin (.var 0) [.list]) (.bi .tuple [.var 0]) (.var 0))]
noncomputable def copF (g : Pg) : Fs := runF g 0 false 1 1 copIR
theorem cop_ok {G : Pg} {N : Nat} {fr : Fr} {st : Sto} {v c : Va} (h : rd st v = c) (hg : good c = true) (hv : isL c = false → v = c) : runF G N false 1 1 copIR fr [v] st = .ok (cp c) st := by
  have ei : evE G fr (.isin (.var 0) [.list]) [some v] st = .ok (.bl (isL c)) st := by
    simp only [evE, List.getElem?_cons_zero, Option.bind_some, id, R.of_some, R.bind_ok, h]
    cases c <;> first | rfl | cases hg
  have e1 : evSs G N fr copIR ([v].map some ++ List.replicate (1 - 1) none) st = .ok (.ret (cp c)) ([some v], st) := by
    refine ev_consR (ev_ret ?_)
    show evE G fr (.ite _ _ _) [some v] st = _
    rw [evE, ei]
    cases q : isL c with
    | true =>
      simp only [R.bind_ok, truth, R.of_some, if_true, evE, evEs, List.getElem?_cons_zero, Option.bind_some, id, List.map_cons, List.map_nil, h, biop, bi1, tupV]
      cases c <;> first | rfl | cases q
    | false =>
      simp only [R.bind_ok, truth, R.of_some, evE, List.getElem?_cons_zero, Option.bind_some, id]
      rw [hv q]
      cases c <;> first | rfl | cases q
  unfold runF
  rw [if_pos (show [v].length = 1 from rfl), e1]
  rfl
/-- the fields are set -/
def initIR : Nat → List String → List S
  | _, [] => []
  | k, f :: fs => .asg (.at_ (.var 0) f) (.call "copied" [.var k]) :: initIR (k + 1) fs
theorem putF_new : ∀ {pre : List (String × Va)} {f : String} {v : Va}, f ∉ pre.map (·.1) → putF pre f v = pre ++ [(f, v)]
  | [], _, _, _ => rfl
  | p :: r, f, v, h => by
    rw [List.map_cons, List.mem_cons, not_or] at h
    rw [putF, if_neg (Ne.symm h.1), putF_new h.2]
    rfl
theorem set_self {st : Sto} {n : Nat} {o : Ob} (h : st[n]? = some o) : st.set n o = st := by
  apply List.ext_getElem?
  intro i
  by_cases q : i = n
  · subst q; rw [get_set h, h]
  · rw [List.getElem?_set_ne (Ne.symm q)]
theorem ev_call1 {G : Pg} {fr : Fr} {ρ : Sl} {st : Sto} {k : Nat} {v c : Va} (hG : G.fn.lookup "copied" = some (copF g0)) (hk : ρ[k]? = some (some v)) (h : rd st v = c) (hg : good c = true) (hv : isL c = false → v = c) : evE G fr (.call "copied" [.var k]) ρ st = .ok (cp c) st :=
  ev_call (ev_es1 (ev_var hk)) hG (cop_ok h hg hv)
theorem ev_at {G : Pg} {N : Nat} {fr : Fr} {ρ : Sl} {st : Sto} {n : Nat} {C f : String} {pre : List (String × Va)} {e : E} {v : Va} (h0 : ρ[0]? = some (some (.ref n))) (hn : st[n]? = some (.ins C pre)) (he : evE G fr e ρ st = .ok v st) (hf : hasF G C f = true) (hl : pre.length < 900) (hp : f ∉ pre.map (·.1)) :
    evS G N fr (.asg (.at_ (.var 0) f) e) ρ st = .ok .nx (ρ, st.set n (.ins C (pre ++ [(f, v)]))) := by
  have hr : rd st (.ref n) = .ins C pre := by simp [rd, hn]
  simp only [evS, he, lift_ok, R.bind_ok, evTg, evE, h0, Option.bind_some, id, R.of_some, hr, hf, Bool.true_and, decide_eq_true hl, if_true, putF_new hp]
theorem init_ok {G : Pg} {N : Nat} {fr : Fr} {ρ : Sl} {n : Nat} {C : String} (hG : G.fn.lookup "copied" = some (copF g0)) (h0 : ρ[0]? = some (some (.ref n))) :
    ∀ (fs : List String) (vs : List Va) (k : Nat) (pre : List (String × Va)) (st : Sto), fs.length = vs.length → st[n]? = some (.ins C pre) → (∀ i v, vs[i]? = some v → ρ[k + i]? = some (some v)) → (∀ v ∈ vs, good v = true) → (∀ f ∈ fs, hasF G C f = true) →
      (pre.map (·.1) ++ fs).Nodup → pre.length + fs.length < 900 → evSs G N fr (initIR k fs) ρ st = .ok .nx (ρ, st.set n (.ins C (pre ++ fs.zip (vs.map cp))))
  | [], vs, k, pre, st, _, hn, _, _, _, _, _ => by
    rw [initIR, List.zip_nil_left, List.append_nil, set_self hn]
    exact ev_nil
  | f :: fs, [], _, _, _, hl, _, _, _, _, _, _ => by cases hl
  | f :: fs, v :: vs, k, pre, st, hl, hn, hk, hg, hf, hd, h9 => by
    have gv := hg v (List.mem_cons_self ..)
    have hfp : f ∉ pre.map (·.1) := fun z => by
      rw [List.nodup_append] at hd
      exact hd.2.2 f z f (List.mem_cons_self ..) rfl
    simp only [List.length_cons] at h9 hl
    have s1 := ev_at (G := G) (N := N) (fr := fr) h0 hn (ev_call1 hG (hk 0 v rfl) (rd_good gv) gv fun _ => rfl) (hf f (List.mem_cons_self ..)) (by omega) hfp
    have s2 := init_ok (G := G) (N := N) (fr := fr) (ρ := ρ) (n := n) (C := C) hG h0 fs vs (k + 1) (pre ++ [(f, cp v)]) _ (by omega) (get_set hn) (fun i w hw => by
      have := hk (i + 1) w (by simpa using hw)
      rw [← this]; congr 1; omega) (fun w hw => hg w (List.mem_cons_of_mem _ hw)) (fun g hg => hf g (List.mem_cons_of_mem _ hg)) (by simpa using hd) (by simp only [List.length_append, List.length_cons, List.length_nil]; omega)
    rw [Nat.add_zero] at s1
    rw [initIR, ev_cons s1, s2, set_set]
    simp
/-- an object made of plain values -/
theorem made_ok {G : Pg} {N : Nat} {fr : Fr} {C : String} {fs : List String} {vs : List Va} {st : Sto} (hG : G.fn.lookup "copied" = some (copF g0)) (hl : fs.length = vs.length) (hg : ∀ v ∈ vs, good v = true) (hf : ∀ f ∈ fs, hasF G C f = true) (hd : fs.Nodup) (h9 : fs.length < 900) :
    mkF false C (runF G N false (fs.length + 1) (fs.length + 1) (initIR 1 fs)) fr vs st = .ok (.ref st.length) (st ++ [.ins C (fs.zip (vs.map cp))]) := by
  have hn : (st ++ [Ob.ins C []])[st.length]? = some (.ins C []) := by simp
  have e := init_ok (G := G) (N := N) (fr := fr) (ρ := some (.ref st.length) :: vs.map some) (n := st.length) (C := C) hG rfl fs vs 1 [] (st ++ [.ins C []]) hl hn (fun i v hv => by
    rw [Nat.add_comm, List.getElem?_cons_succ, List.getElem?_map, hv]; rfl) hg hf (by simpa using hd) (by simpa using h9)
  have e2 : runF G N false (fs.length + 1) (fs.length + 1) (initIR 1 fs) fr (.ref st.length :: vs) (st ++ [.ins C []]) = .ok .non (st ++ [.ins C (fs.zip (vs.map cp))]) := by
    unfold runF
    rw [if_pos (show (Va.ref st.length :: vs).length = fs.length + 1 by simp [hl]), Nat.sub_self, List.replicate_zero, List.append_nil, List.map_cons, e]
    simp [exitV]
  unfold mkF mkO
  rw [e2]
  rfl
/-- .. of one value that may be an object -/
theorem made1_ok {G : Pg} {N : Nat} {fr : Fr} {C f : String} {v c : Va} {st : Sto} (hG : G.fn.lookup "copied" = some (copF g0)) (hr : rd st v = c) (hlt : ∀ n, v = .ref n → n < st.length) (hg : good c = true) (hv : isL c = false → v = c) (hf : hasF G C f = true) :
    mkF false C (runF G N false 2 2 (initIR 1 [f])) fr [v] st = .ok (.ref st.length) (st ++ [.ins C [(f, cp c)]]) := by
  have hn : (st ++ [Ob.ins C []])[st.length]? = some (.ins C []) := by simp
  have hr2 : rd (st ++ [Ob.ins C []]) v = c := by
    rw [← hr]
    cases v with
    | ref n => simp only [rd]; rw [List.getElem?_append_left (hlt n rfl)]
    | _ => rfl
  have e := ev_at (G := G) (N := N) (fr := fr) (ρ := [some (.ref st.length), some v]) (f := f) rfl hn (ev_call1 (k := 1) hG rfl hr2 hg hv) hf (by decide) (by simp)
  have e2 : runF G N false 2 2 (initIR 1 [f]) fr [.ref st.length, v] (st ++ [.ins C []]) = .ok .non (st ++ [.ins C [(f, cp c)]]) := by
    unfold runF
    rw [if_pos (show [Va.ref st.length, v].length = 2 from rfl)]
    have e3 : evSs G N fr (initIR 1 [f]) ([Va.ref st.length, v].map some ++ List.replicate (2 - 2) none) (st ++ [.ins C []]) = .ok .nx ([some (.ref st.length), some v], (st ++ [Ob.ins C []]).set st.length (.ins C ([] ++ [(f, cp c)]))) := (ev_cons e).trans ev_nil
    rw [e3]
    simp [exitV]
  unfold mkF mkO
  rw [e2]
  rfl
end M
end
section
set_option Elab.async false
set_option linter.all false
set_option maxRecDepth 10000
set_option maxHeartbeats 2000000
set_option autoImplicit false
/-! P4: rows of objects. -/
namespace M
def VV (c : Va) : Prop := good c = true ∧ datR 19 (cp c) = true ∧ szR (cp c) ≤ 8000 ∧ datR 20 (cp c) = true
def rowV (i : Nat) (cs : List Va) : Va := .tup [.ref i, .ref (i + 1), .bl true, .lst (cs.map cp), .lst (cs.map cp), .lst cs]
structure Rw where
  i : Nat
  C : String
  fs : List (String × Va)
  cs : List Va
def Rw.va (r : Rw) : Va := rowV r.i r.cs
structure RwOk (names : List String) (st : Sto) (r : Rw) : Prop where
  one : st[r.i]? = some (.ins r.C r.fs)
  two : st[r.i + 1]? = some (.ins r.C r.fs)
  idn : names.contains r.C = true
  vv : ∀ v ∈ r.cs, VV v
  four : r.cs.length ≤ 4
structure Rows (names : List String) (st : Sto) (lo : Nat) (rs : List Rw) : Prop where
  ok : ∀ r ∈ rs, RwOk names st r
  lo : ∀ r ∈ rs, lo ≤ r.i
  up : (rs.map (·.i)).Pairwise (· < ·)
/-- objects stay -/
def InsK (st st' : Sto) : Prop := ∀ (n : Nat) (C : String) (fs : List (String × Va)), st[n]? = some (Ob.ins C fs) → st'[n]? = some (Ob.ins C fs)
theorem InsK.app {st : Sto} {l : List Ob} : InsK st (st ++ l) := fun n C fs h => by
  rw [List.getElem?_append_left (List.getElem?_eq_some_iff.mp h).1]; exact h
theorem InsK.set {st : Sto} {m : Nat} {o o' : Ob} (h : st[m]? = some o) (hn : ∀ C fs, o ≠ .ins C fs) : InsK st (st.set m o') := fun n C fs e => by
  have : m ≠ n := fun q => by subst q; rw [h] at e; exact hn C fs (Option.some.inj e)
  rw [List.getElem?_set_ne this]; exact e
theorem InsK.trans {a b c : Sto} (h : InsK a b) (h2 : InsK b c) : InsK a c := fun n C fs e => h2 n C fs (h n C fs e)
theorem RwOk.keep {names : List String} {st st' : Sto} {r : Rw} (h : RwOk names st r) (k : InsK st st') : RwOk names st' r := ⟨k _ _ _ h.one, k _ _ _ h.two, h.idn, h.vv, h.four⟩
theorem Rows.keep {names : List String} {st st' : Sto} {lo : Nat} {rs : List Rw} (h : Rows names st lo rs) (k : InsK st st') : Rows names st' lo rs := ⟨fun r hr => (h.ok r hr).keep k, h.lo, h.up⟩
theorem Rows.nil {names : List String} {st : Sto} {lo : Nat} : Rows names st lo [] := ⟨fun _ h => by simp at h, fun _ h => by simp at h, List.Pairwise.nil⟩
theorem Rows.snoc {names : List String} {st : Sto} {lo : Nat} {rs : List Rw} {r : Rw} (h : Rows names st lo rs) (hr : RwOk names st r) (hl : lo ≤ r.i) (hb : ∀ x ∈ rs, x.i < r.i) : Rows names st lo (rs ++ [r]) := by
  refine ⟨fun x hx => ?_, fun x hx => ?_, ?_⟩
  · rcases List.mem_append.mp hx with hx | hx
    · exact h.ok x hx
    · rw [List.mem_singleton.mp hx]; exact hr
  · rcases List.mem_append.mp hx with hx | hx
    · exact h.lo x hx
    · rw [List.mem_singleton.mp hx]; exact hl
  · rw [List.map_append, List.pairwise_append]
    refine ⟨h.up, by simp, fun a ha b hb2 => ?_⟩
    obtain ⟨x, hx, rfl⟩ := List.mem_map.mp ha
    simp only [List.map_cons, List.map_nil, List.mem_singleton] at hb2
    subst hb2
    exact hb x hx
theorem Rows.app {names : List String} {st : Sto} {lo lo' : Nat} {rs rs' : List Rw} (h : Rows names st lo rs) (h' : Rows names st lo' rs') (hb : ∀ x ∈ rs, x.i < lo') (hl : lo ≤ lo') : Rows names st lo (rs ++ rs') := by
  refine ⟨fun x hx => ?_, fun x hx => ?_, ?_⟩
  · rcases List.mem_append.mp hx with hx | hx
    · exact h.ok x hx
    · exact h'.ok x hx
  · rcases List.mem_append.mp hx with hx | hx
    · exact h.lo x hx
    · exact Nat.le_trans hl (h'.lo x hx)
  · rw [List.map_append, List.pairwise_append]
    refine ⟨h.up, h'.up, fun a ha b hb2 => ?_⟩
    obtain ⟨x, hx, rfl⟩ := List.mem_map.mp ha
    obtain ⟨y, hy, rfl⟩ := List.mem_map.mp hb2
    exact Nat.lt_of_lt_of_le (hb x hx) (h'.lo y hy)
theorem Rows.lt {names : List String} {st : Sto} {lo : Nat} {rs : List Rw} (h : Rows names st lo rs) {x : Rw} (hx : x ∈ rs) : x.i + 1 < st.length := (List.getElem?_eq_some_iff.mp (h.ok x hx).two).1
/-! ### steps -/
theorem ev_vars {G : Pg} {fr : Fr} {ρ : Sl} {st : Sto} : ∀ (is : List Nat) (vs : List Va), is.map (fun i => ρ[i]?) = vs.map (fun v => some (some v)) → evEs G fr (is.map .var) ρ st = .ok vs st
  | [], [], _ => ev_es0
  | [], _ :: _, h => by cases h
  | _ :: _, [], h => by cases h
  | i :: is, v :: vs, h => by
    simp only [List.map_cons, List.cons.injEq] at h
    rw [List.map_cons, evEs, ev_var h.1, R.bind_ok, ev_vars is vs h.2]
    rfl
theorem ev_attrs {G : Pg} {fr : Fr} {ρ : Sl} {st : Sto} {i n : Nat} {C : String} (h0 : ρ[i]? = some (some (.ref n))) : ∀ (fs : List String) (vs : List Va) (pre : List (String × Va)), fs.length = vs.length → st[n]? = some (.ins C (pre ++ fs.zip vs)) → (∀ f ∈ fs, hasF G C f = true) → (pre.map (·.1) ++ fs).Nodup →
      evEs G fr (fs.map (.attr (.var i))) ρ st = .ok vs st
  | [], [], _, _, _, _, _ => ev_es0
  | [], _ :: _, _, h, _, _, _ => by cases h
  | _ :: _, [], _, h, _, _, _ => by cases h
  | f :: fs, v :: vs, pre, hl, hn, hf, hd => by
    have hr : rd st (.ref n) = .ins C (pre ++ (f :: fs).zip (v :: vs)) := by simp only [rd, hn]
    have hfp : f ∉ pre.map (·.1) := fun z => by
      rw [List.nodup_append] at hd
      exact hd.2.2 f z f (List.mem_cons_self ..) rfl
    have hg : getF (pre ++ (f :: fs).zip (v :: vs)) f = some v := by
      unfold getF
      clear hr hn hd
      induction pre with
      | nil => simp
      | cons p r ih =>
        obtain ⟨a, b⟩ := p
        rw [List.map_cons, List.mem_cons, not_or] at hfp
        rw [List.cons_append, List.lookup_cons, show (f == a) = false from beq_eq_false_iff_ne.mpr hfp.1]
        exact ih hfp.2
    have e1 : evE G fr (.attr (.var i) f) ρ st = .ok v st := by
      rw [evE, ev_var h0, R.bind_ok, hr]
      simp only [hf f (List.mem_cons_self ..), if_true, hg, R.of_some]
    rw [List.map_cons, evEs, e1, R.bind_ok, ev_attrs h0 fs vs (pre ++ [(f, v)]) (by simpa using hl) (by simpa using hn) (fun g hg => hf g (List.mem_cons_of_mem _ hg)) (by simpa using hd)]
    rfl
theorem ev_isown {G : Pg} {fr : Fr} {ρ : Sl} {st : Sto} {i n : Nat} {C : String} {fs : List (String × Va)} (h0 : ρ[i]? = some (some (.ref n))) (hn : st[n]? = some (.ins C fs)) (hk : G.kit.contains (C, C) = true) : evE G fr (.isin (.var i) [.own C]) ρ st = .ok (.bl true) st := by
  rw [evE, ev_var h0, R.bind_ok]
  simp only [rd, hn, isTys, isTy, hk, if_true, decide_true, Option.map_some, R.of_some]
theorem ev_tup {G : Pg} {fr : Fr} {ρ : Sl} {st st1 : Sto} {es : List E} {vs : List Va} (h : evEs G fr es ρ st = .ok vs st1) : evE G fr (.tup es) ρ st = .ok (.tup vs) st1 := by rw [evE, h]; rfl
theorem ev_lstF {G : Pg} {fr : Fr} {ρ : Sl} {st st1 : Sto} {es : List E} {vs : List Va} (h : evEs G fr es ρ st = .ok vs st1) : evE G fr (.lst false es) ρ st = .ok (.lst vs) st1 := by rw [evE, h]; rfl
theorem ev_lstT {G : Pg} {fr : Fr} {ρ : Sl} {st st1 : Sto} {es : List E} {vs : List Va} (h : evEs G fr es ρ st = .ok vs st1) : evE G fr (.lst true es) ρ st = .ok (.ref st1.length) (st1 ++ [.lst vs]) := by rw [evE, h]; rfl
theorem ev_esC {G : Pg} {fr : Fr} {ρ : Sl} {st st1 st2 : Sto} {e : E} {es : List E} {v : Va} {vs : List Va} (h : evE G fr e ρ st = .ok v st1) (h2 : evEs G fr es ρ st1 = .ok vs st2) : evEs G fr (e :: es) ρ st = .ok (v :: vs) st2 := by rw [evEs, h, R.bind_ok, h2]; rfl
/-- a pair of names -/
theorem ev_tp2 {G : Pg} {N : Nat} {fr : Fr} {ρ : Sl} {st st1 : Sto} {i j : Nat} {e : E} {v w : Va} (h : evE G fr e ρ st = .ok (.tup [v, w]) st1) : evS G N fr (.asg (.tp [.nm i, .nm j]) e) ρ st = .ok .nx ((ρ.set i (some v)).set j (some w), st1) := by
  rw [evS, h]
  rfl
theorem ev_append {G : Pg} {N : Nat} {fr : Fr} {ρ : Sl} {st : Sto} {i m : Nat} {e : E} {v : Va} {xs : List Va} (h0 : ρ[i]? = some (some (.ref m))) (hm : st[m]? = some (.lst xs)) (hs : small xs.length = true) (h : evE G fr e ρ st = .ok v st) :
    evS G N fr (.expr (.mt .append (.var i) [e])) ρ st = .ok .nx (ρ, st.set m (.lst (xs ++ [v]))) := by
  have hr : rd st (.ref m) = .lst xs := by simp only [rd, hm]
  rw [evS, evE, ev_var h0, R.bind_ok, hr]
  simp only [mtOk, if_true, ev_es1 h, R.bind_ok, mtop, appV, hr, hs, lift_ok]
end M
end
section
set_option Elab.async false
set_option linter.all false
set_option maxRecDepth 10000
set_option maxHeartbeats 2000000
set_option autoImplicit false
/-! P5: the made rows. -/
namespace M
variable {g0 : Pg}
def asV (n : Nat) : List E := (List.range n).map .var
def blk (p : String × List String) : List S := [.asg (.tp [.nm 5, .nm 6]) (.tup [.call p.1 (asV p.2.length), .call p.1 (asV p.2.length)]),
  .asg (.tp [.nm 7, .nm 8]) (.tup [.and (.isin (.var 5) [.own p.1]) (.isin (.var 6) [.own p.1]), .lst false (p.2.map (.attr (.var 5)))]),
  .expr (.mt .append (.var 4) [.tup [.var 5, .var 6, .var 7, .var 8, .lst false (p.2.map (.attr (.var 6))), .lst false (asV p.2.length)]])]
def blks (l : List (String × List String)) : List S := match l with
  | [] => []
  | p :: r => blk p ++ blks r
def madeIR (l : List (String × List String)) : List S := .asg (.nm 4) (.lst true []) :: (blks l ++ [.ret (.var 4)])
/-- the maker of a class -/
noncomputable def mkr (Gi : Pg) (p : String × List String) : Fs := mkF false p.1 (runF Gi 0 false (p.2.length + 1) (p.2.length + 1) (initIR 1 p.2))
/-- what a class must be -/
structure ClsP (Gi G : Pg) (names : List String) (p : String × List String) : Prop where
  fn : G.fn.lookup p.1 = some (mkr Gi p)
  hi : ∀ f ∈ p.2, hasF Gi p.1 f = true
  hf : ∀ f ∈ p.2, hasF G p.1 f = true
  nd : p.2.Nodup
  four : p.2.length ≤ 4
  kit : G.kit.contains (p.1, p.1) = true
  idn : names.contains p.1 = true
structure MI (names : List String) (vs : List Va) (st0 : Sto) (ρ : Sl) (st : Sto) (rs : List Rw) : Prop where
  len : ρ.length = 9
  args : ∀ i, i < 4 → ρ[i]? = (vs[i]?).map some
  row : ρ[4]? = some (some (.ref st0.length))
  lst : st[st0.length]? = some (.lst (rs.map Rw.va))
  le : st0.length < st.length
  old : ∀ n, n < st0.length → st[n]? = st0[n]?
  rows : Rows names st (st0.length + 1) rs
section
variable {Gi G : Pg} {names : List String} {vs : List Va} {fr : Fr} {N : Nat}
theorem blk_ok (hc : Gi.fn.lookup "copied" = some (copF g0)) (h4 : vs.length = 4) (hv : ∀ v ∈ vs, VV v) {p : String × List String} (cp' : ClsP Gi G names p) {st0 st : Sto} {ρ : Sl} {rs : List Rw} (mi : MI names vs st0 ρ st rs) (hs : rs.length ≤ 1000) :
    ∃ ρ' st' r, (∀ rest, evSs G N fr (blk p ++ rest) ρ st = evSs G N fr rest ρ' st') ∧ MI names vs st0 ρ' st' (rs ++ [r]) := by
  obtain ⟨C, fs⟩ := p
  have four := cp'.four
  simp only at four
  generalize hw : vs.take fs.length = ws
  have hwl : fs.length = ws.length := by rw [← hw, List.length_take]; omega
  have hwv : ∀ v ∈ ws, VV v := fun v h => hv v (List.mem_of_mem_take (by rw [hw]; exact h))
  have hws : ∀ i, i < fs.length → ws[i]? = vs[i]? := fun i hi => by rw [← hw, List.getElem?_take, if_pos hi]
  have hall : ∀ (ρ2 : Sl) (st2 : Sto), (∀ i, i < 4 → ρ2[i]? = ρ[i]?) → evEs G fr (asV fs.length) ρ2 st2 = .ok ws st2 := fun ρ2 st2 h => ev_vars _ _ (by
    apply List.ext_getElem?
    intro i
    rw [List.getElem?_map, List.getElem?_map]
    by_cases hi : i < fs.length
    · rw [hws i hi, List.getElem?_range hi, Option.map_some, h i (by omega), mi.args i (by omega)]
      rw [List.getElem?_eq_getElem (show i < vs.length by omega)]
      rfl
    · rw [List.getElem?_eq_none (by rw [List.length_range]; omega), List.getElem?_eq_none (by omega)]
      rfl)
  generalize ho : Ob.ins C (fs.zip (ws.map cp)) = o
  have hmk : ∀ (ρ2 : Sl) (st2 : Sto), (∀ i, i < 4 → ρ2[i]? = ρ[i]?) → evE G fr (.call C (asV fs.length)) ρ2 st2 = .ok (.ref st2.length) (st2 ++ [o]) := fun ρ2 st2 h => ev_call (hall ρ2 st2 h) cp'.fn (by
    rw [← ho]
    exact made_ok hc hwl (fun v h => (hwv v h).1) cp'.hi cp'.nd (by show fs.length < 900; omega))
  -- two objects
  have s1 := ev_tp2 (G := G) (N := N) (fr := fr) (i := 5) (j := 6) (ev_tup (ev_es2 (hmk ρ st fun _ _ => rfl) (hmk ρ (st ++ [o]) fun _ _ => rfl)))
  have hst1 : (st ++ [o]) ++ [o] = st ++ [o, o] := by simp
  have hl1 : (st ++ [o]).length = st.length + 1 := by simp
  rw [hst1, hl1] at s1
  generalize hρ1 : (ρ.set 5 (some (.ref st.length))).set 6 (some (.ref (st.length + 1))) = ρ1 at s1
  have l1 : ρ1.length = 9 := by rw [← hρ1, List.length_set, List.length_set]; exact mi.len
  have k5 : ρ1[5]? = some (some (.ref st.length)) := by rw [← hρ1, List.getElem?_set_ne (by decide), List.getElem?_set_self (by rw [mi.len]; decide)]
  have k6 : ρ1[6]? = some (some (.ref (st.length + 1))) := by rw [← hρ1, List.getElem?_set_self (by rw [List.length_set, mi.len]; decide)]
  have kl : ∀ i, i < 5 → ρ1[i]? = ρ[i]? := fun i hi => by rw [← hρ1, List.getElem?_set_ne (by omega), List.getElem?_set_ne (by omega)]
  generalize hst : st ++ [o, o] = st1 at s1
  have o1 : st1[st.length]? = some o := by rw [← hst]; simp
  have o2 : st1[st.length + 1]? = some o := by rw [← hst]; simp
  have ol : ∀ n, n < st.length → st1[n]? = st[n]? := fun n hn => by rw [← hst, List.getElem?_append_left hn]
  have oL : st1.length = st.length + 2 := by rw [← hst]; simp
  have ins : InsK st st1 := by rw [← hst]; exact InsK.app
  -- kind, first
  have hcl : fs.length = (ws.map cp).length := by rw [List.length_map]; exact hwl
  have e7 := ev_and (G := G) (fr := fr) (st := st1) (ev_isown k5 (by rw [o1, ← ho]) cp'.kit) (fun _ => ev_isown k6 (by rw [o2, ← ho]) cp'.kit) (fun _ => rfl)
  have e8 := ev_lstF (ev_attrs (G := G) (fr := fr) (st := st1) k5 fs (ws.map cp) [] hcl (by rw [o1, ← ho]; rfl) cp'.hf (by simpa using cp'.nd))
  have s2 := ev_tp2 (G := G) (N := N) (fr := fr) (i := 7) (j := 8) (ev_tup (ev_es2 e7 e8))
  generalize hρ2 : (ρ1.set 7 (some (.bl (true && true)))).set 8 (some (.lst (ws.map cp))) = ρ2 at s2
  have l2 : ρ2.length = 9 := by rw [← hρ2, List.length_set, List.length_set]; exact l1
  have m7 : ρ2[7]? = some (some (.bl true)) := by rw [← hρ2, List.getElem?_set_ne (by decide), List.getElem?_set_self (by rw [l1]; decide)]; rfl
  have m8 : ρ2[8]? = some (some (.lst (ws.map cp))) := by rw [← hρ2, List.getElem?_set_self (by rw [List.length_set, l1]; decide)]
  have ml : ∀ i, i < 7 → ρ2[i]? = ρ1[i]? := fun i hi => by rw [← hρ2, List.getElem?_set_ne (by omega), List.getElem?_set_ne (by omega)]
  -- the row
  have e9 := ev_lstF (ev_attrs (G := G) (fr := fr) (ρ := ρ2) (st := st1) (i := 6) (by rw [ml 6 (by decide)]; exact k6) fs (ws.map cp) [] hcl (by rw [o2, ← ho]; rfl) cp'.hf (by simpa using cp'.nd))
  have e10 := ev_lstF (hall ρ2 st1 fun i hi => by rw [ml i (by omega), kl i (by omega)])
  have er := ev_tup (ev_esC (ev_var (G := G) (fr := fr) (st := st1) (show ρ2[5]? = _ by rw [ml 5 (by decide)]; exact k5)) (ev_esC (ev_var (show ρ2[6]? = _ by rw [ml 6 (by decide)]; exact k6)) (ev_esC (ev_var m7) (ev_esC (ev_var m8) (ev_es2 e9 e10)))))
  have hrow : st1[st0.length]? = some (.lst (rs.map Rw.va)) := by rw [ol _ mi.le]; exact mi.lst
  have s3 := ev_append (G := G) (N := N) (fr := fr) (i := 4) (show ρ2[4]? = _ by rw [ml 4 (by decide), kl 4 (by decide)]; exact mi.row) hrow (by unfold small; rw [List.length_map]; exact decide_eq_true (by unfold Lm; omega)) er
  refine ⟨ρ2, st1.set st0.length (.lst ((rs ++ [Rw.mk st.length C (fs.zip (ws.map cp)) ws]).map Rw.va)), Rw.mk st.length C (fs.zip (ws.map cp)) ws, fun rest => ?_, ?_⟩
  · show evSs G N fr (_ :: _ :: _ :: rest) ρ st = _
    rw [ev_cons s1, ev_cons s2, ev_cons s3, List.map_append]
    rfl
  · have insS : InsK st1 (st1.set st0.length (.lst ((rs ++ [Rw.mk st.length C (fs.zip (ws.map cp)) ws]).map Rw.va))) := InsK.set hrow fun _ _ h => by cases h
    have le := mi.le
    refine ⟨l2, fun i hi => by rw [ml i (by omega), kl i (by omega)]; exact mi.args i hi, by rw [ml 4 (by decide), kl 4 (by decide)]; exact mi.row, get_set hrow, by rw [List.length_set]; omega, fun n hn => by rw [List.getElem?_set_ne (by omega), ol n (by omega)]; exact mi.old n hn, ?_⟩
    refine ((mi.rows.keep ins).keep insS).snoc ⟨insS _ _ _ (by rw [o1, ← ho]), insS _ _ _ (by rw [o2, ← ho]), cp'.idn, hwv, by rw [← hwl]; exact four⟩ le fun x hx => ?_
    have := mi.rows.lt hx
    simp only; omega
theorem blks_ok (hc : Gi.fn.lookup "copied" = some (copF g0)) (h4 : vs.length = 4) (hv : ∀ v ∈ vs, VV v) : ∀ (l : List (String × List String)) (st0 st : Sto) (ρ : Sl) (rs : List Rw), (∀ p ∈ l, ClsP Gi G names p) → MI names vs st0 ρ st rs → rs.length + l.length ≤ 1000 →
    ∃ ρ' st' rs', (∀ rest, evSs G N fr (blks l ++ rest) ρ st = evSs G N fr rest ρ' st') ∧ MI names vs st0 ρ' st' (rs ++ rs') ∧ rs'.length = l.length
  | [], _, st, ρ, rs, _, mi, _ => ⟨ρ, st, [], fun _ => rfl, by rw [List.append_nil]; exact mi, rfl⟩
  | p :: l, st0, st, ρ, rs, hp, mi, hs => by
    rw [List.length_cons] at hs
    obtain ⟨ρ1, st1, r, e1, mi1⟩ := blk_ok (N := N) (fr := fr) hc h4 hv (hp p (List.mem_cons_self ..)) mi (by omega)
    obtain ⟨ρ2, st2, rs2, e2, mi2, hl⟩ := blks_ok hc h4 hv l st0 st1 ρ1 (rs ++ [r]) (fun q hq => hp q (List.mem_cons_of_mem _ hq)) mi1 (by rw [List.length_append]; simp only [List.length_cons, List.length_nil]; omega)
    refine ⟨ρ2, st2, r :: rs2, fun rest => ?_, by simpa using mi2, by simp [hl]⟩
    rw [blks, List.append_assoc, e1, e2]
/-- a def of made rows -/
theorem made_rows (hc : Gi.fn.lookup "copied" = some (copF g0)) (h4 : vs.length = 4) (hv : ∀ v ∈ vs, VV v) {l : List (String × List String)} (hp : ∀ p ∈ l, ClsP Gi G names p) (hl : l.length ≤ 1000) (st : Sto) :
    ∃ st' rs, runF G N false 9 4 (madeIR l) fr vs st = .ok (.ref st.length) st' ∧ st'[st.length]? = some (.lst (rs.map Rw.va)) ∧ Rows names st' (st.length + 1) rs ∧ rs.length = l.length ∧ st.length < st'.length ∧ ∀ n, n < st.length → st'[n]? = st[n]? := by
  obtain ⟨a, b, c, d, rfl⟩ : ∃ a b c d, vs = [a, b, c, d] := by
    match vs, h4 with
    | [a, b, c, d], _ => exact ⟨a, b, c, d, rfl⟩
  have mi : MI names [a, b, c, d] st [some a, some b, some c, some d, some (.ref st.length), none, none, none, none] (st ++ [.lst []]) [] := by
    refine ⟨rfl, fun i hi => ?_, rfl, by simp, by simp, fun n hn => by rw [List.getElem?_append_left hn], .nil⟩
    match i, hi with
    | 0, _ => rfl
    | 1, _ => rfl
    | 2, _ => rfl
    | 3, _ => rfl
  obtain ⟨ρ', st', rs, e, mi', hl'⟩ := blks_ok (N := N) (fr := fr) hc h4 hv l st _ _ [] hp mi (by simpa using hl)
  rw [List.nil_append] at mi'
  refine ⟨st', rs, ?_, mi'.lst, mi'.rows, hl', mi'.le, mi'.old⟩
  unfold runF
  rw [if_pos (show [a, b, c, d].length = 4 from rfl)]
  have e0 : evSs G N fr (madeIR l) ([a, b, c, d].map some ++ List.replicate (9 - 4) none) st = .ok (.ret (.ref st.length)) (ρ', st') := by
    refine (ev_cons (ev_asg (ev_lstT ev_es0))).trans ?_
    exact (e [.ret (.var 4)]).trans (ev_consR (ev_ret (ev_var mi'.row)))
  rw [e0]
  rfl
end
end M
end
section
set_option Elab.async false
set_option linter.all false
set_option maxRecDepth 10000
set_option maxHeartbeats 2000000
set_option autoImplicit false
/-! P6: bare rows. -/
namespace M
variable {g0 : Pg}
def blkB (C : String) : List S := [.asg (.tp [.nm 1, .nm 2]) (.tup [.call C [], .call C []]),
  .expr (.mt .append (.var 0) [.tup [.var 1, .var 2, .isin (.var 1) [.own C], .lst false [], .lst false [], .lst false []]])]
def blksB (l : List String) : List S := match l with
  | [] => []
  | p :: r => blkB p ++ blksB r
def bareIR (l : List String) : List S := .asg (.nm 0) (.lst true []) :: (blksB l ++ [.ret (.var 0)])
structure BareP (G : Pg) (names : List String) (p : String) : Prop where
  fn : G.fn.lookup p = some (mkE false p)
  kit : G.kit.contains (p, p) = true
  idn : names.contains p = true
structure MB (names : List String) (st0 : Sto) (ρ : Sl) (st : Sto) (rs : List Rw) : Prop where
  len : ρ.length = 3
  row : ρ[0]? = some (some (.ref st0.length))
  lst : st[st0.length]? = some (.lst (rs.map Rw.va))
  le : st0.length < st.length
  old : ∀ n, n < st0.length → st[n]? = st0[n]?
  rows : Rows names st (st0.length + 1) rs
section
variable {G : Pg} {names : List String} {fr : Fr} {N : Nat}
theorem blkB_ok {C : String} (cp' : BareP G names C) {st0 st : Sto} {ρ : Sl} {rs : List Rw} (mi : MB names st0 ρ st rs) (hs : rs.length ≤ 1000) :
    ∃ ρ' st' r, (∀ rest, evSs G N fr (blkB C ++ rest) ρ st = evSs G N fr rest ρ' st') ∧ MB names st0 ρ' st' (rs ++ [r]) := by
  have hmk : ∀ (st2 : Sto), evE G fr (.call C []) ρ st2 = .ok (.ref st2.length) (st2 ++ [.ins C []]) := fun st2 => ev_call ev_es0 cp'.fn rfl
  have s1 := ev_tp2 (G := G) (N := N) (fr := fr) (i := 1) (j := 2) (ev_tup (ev_es2 (hmk st) (hmk (st ++ [.ins C []]))))
  have hst1 : (st ++ [Ob.ins C []]) ++ [Ob.ins C []] = st ++ [.ins C [], .ins C []] := by simp
  have hl1 : (st ++ [Ob.ins C []]).length = st.length + 1 := by simp
  rw [hst1, hl1] at s1
  generalize hρ1 : (ρ.set 1 (some (.ref st.length))).set 2 (some (.ref (st.length + 1))) = ρ1 at s1
  have l1 : ρ1.length = 3 := by rw [← hρ1, List.length_set, List.length_set]; exact mi.len
  have k5 : ρ1[1]? = some (some (.ref st.length)) := by rw [← hρ1, List.getElem?_set_ne (by decide), List.getElem?_set_self (by rw [mi.len]; decide)]
  have k6 : ρ1[2]? = some (some (.ref (st.length + 1))) := by rw [← hρ1, List.getElem?_set_self (by rw [List.length_set, mi.len]; decide)]
  have kl : ρ1[0]? = ρ[0]? := by rw [← hρ1, List.getElem?_set_ne (by decide), List.getElem?_set_ne (by decide)]
  generalize hst : st ++ [Ob.ins C [], Ob.ins C []] = st1 at s1
  have o1 : st1[st.length]? = some (.ins C []) := by rw [← hst]; simp
  have o2 : st1[st.length + 1]? = some (.ins C []) := by rw [← hst]; simp
  have ol : ∀ n, n < st.length → st1[n]? = st[n]? := fun n hn => by rw [← hst, List.getElem?_append_left hn]
  have oL : st1.length = st.length + 2 := by rw [← hst]; simp
  have ins : InsK st st1 := by rw [← hst]; exact InsK.app
  have er := ev_tup (ev_esC (ev_var (G := G) (fr := fr) (st := st1) k5) (ev_esC (ev_var k6) (ev_esC (ev_isown k5 o1 cp'.kit) (ev_esC (ev_lstF ev_es0) (ev_es2 (ev_lstF ev_es0) (ev_lstF ev_es0))))))
  have hrow : st1[st0.length]? = some (.lst (rs.map Rw.va)) := by rw [ol _ mi.le]; exact mi.lst
  have s3 := ev_append (G := G) (N := N) (fr := fr) (i := 0) (show ρ1[0]? = _ by rw [kl]; exact mi.row) hrow (by unfold small; rw [List.length_map]; exact decide_eq_true (by unfold Lm; omega)) er
  refine ⟨ρ1, st1.set st0.length (.lst ((rs ++ [Rw.mk st.length C [] []]).map Rw.va)), Rw.mk st.length C [] [], fun rest => ?_, ?_⟩
  · show evSs G N fr (_ :: _ :: rest) ρ st = _
    rw [ev_cons s1, ev_cons s3, List.map_append]
    rfl
  · have insS : InsK st1 (st1.set st0.length (.lst ((rs ++ [Rw.mk st.length C [] []]).map Rw.va))) := InsK.set hrow fun _ _ h => by cases h
    have le := mi.le
    refine ⟨l1, by rw [kl]; exact mi.row, get_set hrow, by rw [List.length_set]; omega, fun n hn => by rw [List.getElem?_set_ne (by omega), ol n (by omega)]; exact mi.old n hn, ?_⟩
    refine ((mi.rows.keep ins).keep insS).snoc ⟨insS _ _ _ o1, insS _ _ _ o2, cp'.idn, fun _ h => by simp at h, by simp⟩ le fun x hx => ?_
    have := mi.rows.lt hx
    simp only; omega
theorem blksB_ok : ∀ (l : List String) (st0 st : Sto) (ρ : Sl) (rs : List Rw), (∀ p ∈ l, BareP G names p) → MB names st0 ρ st rs → rs.length + l.length ≤ 1000 →
    ∃ ρ' st' rs', (∀ rest, evSs G N fr (blksB l ++ rest) ρ st = evSs G N fr rest ρ' st') ∧ MB names st0 ρ' st' (rs ++ rs') ∧ rs'.length = l.length
  | [], _, st, ρ, rs, _, mi, _ => ⟨ρ, st, [], fun _ => rfl, by rw [List.append_nil]; exact mi, rfl⟩
  | p :: l, st0, st, ρ, rs, hp, mi, hs => by
    rw [List.length_cons] at hs
    obtain ⟨ρ1, st1, r, e1, mi1⟩ := blkB_ok (N := N) (fr := fr) (hp p (List.mem_cons_self ..)) mi (by omega)
    obtain ⟨ρ2, st2, rs2, e2, mi2, hl⟩ := blksB_ok l st0 st1 ρ1 (rs ++ [r]) (fun q hq => hp q (List.mem_cons_of_mem _ hq)) mi1 (by rw [List.length_append]; simp only [List.length_cons, List.length_nil]; omega)
    refine ⟨ρ2, st2, r :: rs2, fun rest => ?_, by simpa using mi2, by simp [hl]⟩
    rw [blksB, List.append_assoc, e1, e2]
theorem bare_rows {l : List String} (hp : ∀ p ∈ l, BareP G names p) (hl : l.length ≤ 1000) (st : Sto) :
    ∃ st' rs, runF G N false 3 0 (bareIR l) fr [] st = .ok (.ref st.length) st' ∧ st'[st.length]? = some (.lst (rs.map Rw.va)) ∧ Rows names st' (st.length + 1) rs ∧ rs.length = l.length ∧ st.length < st'.length ∧ ∀ n, n < st.length → st'[n]? = st[n]? := by
  have mi : MB names st [some (.ref st.length), none, none] (st ++ [.lst []]) [] := ⟨rfl, rfl, by simp, by simp, fun n hn => by rw [List.getElem?_append_left hn], .nil⟩
  obtain ⟨ρ', st', rs, e, mi', hl'⟩ := blksB_ok (N := N) (fr := fr) l st _ _ [] hp mi (by simpa using hl)
  rw [List.nil_append] at mi'
  refine ⟨st', rs, ?_, mi'.lst, mi'.rows, hl', mi'.le, mi'.old⟩
  unfold runF
  rw [if_pos (show ([] : List Va).length = 0 from rfl)]
  have e0 : evSs G N fr (bareIR l) (([] : List Va).map some ++ List.replicate (3 - 0) none) st = .ok (.ret (.ref st.length)) (ρ', st') := by
    refine (ev_cons (ev_asg (ev_lstT ev_es0))).trans ?_
    exact (e [.ret (.var 0)]).trans (ev_consR (ev_ret (ev_var mi'.row)))
  rw [e0]
  rfl
end
end M
end
section
set_option Elab.async false
set_option linter.all false
set_option maxRecDepth 10000
set_option maxHeartbeats 2000000
set_option autoImplicit false
/-! P7: a drawn value. -/
namespace M
variable {g0 : Pg}
theorem ev_comp {G : Pg} {fr : Fr} {ρ : Sl} {st st1 : Sto} {m : Bool} {elt it : E} {i : Nat} {vs : List Nat} {w : Va} {all : List Va} (hit : evE G fr it ρ st = .ok w st1) (hw : ∀ s, row? (rd s w) = some all) (hs : small all.length = true) (P : Nat → List Va → Sto → Prop) (h0 : P 0 [] st1)
    (step : ∀ k x acc s, all[k]? = some x → P k acc s → ∃ v s', evE G fr elt ((wipe ρ vs).set i (some x)) s = .ok v s' ∧ P (k + 1) (acc ++ [v]) s') : ∃ l st2, evE G fr (.comp m elt [i] true vs it none) ρ st = fresh m (.lst l) st2 ∧ P all.length l st2 := by
  obtain ⟨l, st2, e, p⟩ := compL_inv hw (f := fun x st => match bindTg st (wipe ρ vs) [i] true x with
      | none => .bad
      | some ρ1 => (noX (evC G fr none ρ1 st)).bind fun t st => if t then (noX (evE G fr elt ρ1 st)).bind fun v st => .ok (some v) st else .ok none st) P (fun k x acc s hx hp => by
    obtain ⟨v, s', e, p⟩ := step k x acc s hx hp
    refine ⟨v, s', ?_, p⟩
    simp only [bindTg, evC, noX, R.bind_ok, if_true, e]) all.length 0 [] st1 (by omega) h0
  rw [List.drop_zero] at e
  rw [List.nil_append] at p
  refine ⟨l, st2, ?_, p⟩
  rw [evE, hit, R.bind_ok, hw st1]
  simp only [hs, if_true]
  exact congrArg (fun r : R Sto (List Va) => r.bind fun l st => fresh m (.lst l) st) e
def VOk (st : Sto) (v : Va) : Prop := (VV v ∧ isL v = false) ∨ ∃ m xs, v = .ref m ∧ st[m]? = some (.lst xs) ∧ VV (.lst xs)
def valueIR : List S := [.asg (.nm 1) (.lst false [.tup [.con (.int 1), .con (.int 2)], .lst true [.con (.int 1), .lst false [.con (.int 2)]], .lst true [], .tup [], .con (.str [119, 101, 98]), .con (.int 5), .con .non, .con (.bl true), .tup [.tup [.con (.int 0), .con (.int 1)]], .lst true [.lst false [.con (.int 0)], .lst false [.con (.int 1)]], .dct false [.str [97]] [.con (.int 1)], .neg (.con (.int 3)), .con (.str []), .lst true [.con .non]]),
  .ret (.call "_law_pick" [.var 0, .bin .add (.var 1) (.lst false [.comp true (.call "_law_draw" [.var 0, .con (.int 9)]) [2] true [2] (.range1 (.con (.int 3))) none])])]
noncomputable def pickF (g : Pg) : Fs := runF g 0 false 2 2 pickIR
noncomputable def valueF (g : Pg) : Fs := runF g 0 false 3 1 valueIR
theorem vv_digits {l : List Va} (h3 : l.length = 3) (h : ∀ v ∈ l, ∃ d : Int, v = .int d ∧ 0 ≤ d ∧ d < 9) : VV (.lst l) := by
  have one : ∀ v ∈ l, datR 18 v = true ∧ szR v = 1921 ∧ datR 19 v = true := fun v hv => by
    obtain ⟨d, rfl, h0, h9⟩ := h v hv
    have : d = 0 ∨ d = 1 ∨ d = 2 ∨ d = 3 ∨ d = 4 ∨ d = 5 ∨ d = 6 ∨ d = 7 ∨ d = 8 := by omega
    rcases this with rfl | rfl | rfl | rfl | rfl | rfl | rfl | rfl | rfl <;> exact ⟨by decide +kernel, rfl, by decide +kernel⟩
  match l, h3, one with
  | [a, b, c], _, one =>
    refine ⟨rfl, ?_, ?_, ?_⟩
    · simp only [cp, datR, List.all_cons, List.all_nil, Bool.and_true, Bool.and_eq_true]
      exact ⟨(one a (by simp)).1, (one b (by simp)).1, (one c (by simp)).1⟩
    · simp only [cp, szR, szRs, (one a (by simp)).2.1, (one b (by simp)).2.1, (one c (by simp)).2.1]
      omega
    · simp only [cp, datR, List.all_cons, List.all_nil, Bool.and_true, Bool.and_eq_true]
      exact ⟨(one a (by simp)).2.2, (one b (by simp)).2.2, (one c (by simp)).2.2⟩
theorem value_ok {g1 G : Pg} {N : Nat} {fr : Fr} {st : Sto} {n : Nat} {p : Pn} (hD : G.fn.lookup "_law_draw" = some (drawF g0)) (hP : G.fn.lookup "_law_pick" = some (pickF g1)) (hD1 : g1.fn.lookup "_law_draw" = some (drawF g0)) (h : st[n]? = some (.dct (penD p))) (ok : POk p) (hc : p.c < 2 ^ 20) :
    ∃ v p' st', runF G N false 3 1 valueIR fr [.ref n] st = .ok v st' ∧ st'[n]? = some (.dct (penD p')) ∧ POk p' ∧ p'.c = p.c + 4 ∧ st.length ≤ st'.length ∧ (∀ m, m < st.length → m ≠ n → st'[m]? = st[m]?) ∧ VOk st' v := by
  have hn := (List.getElem?_eq_some_iff.mp h).1
  generalize hA : st ++ [Ob.lst [.int 1, .lst [.int 2]], .lst [], .lst [.lst [.int 0], .lst [.int 1]], .lst [.non]] = A
  generalize hl : [Va.tup [.int 1, .int 2], .ref st.length, .ref (st.length + 1), .tup [], .str [119, 101, 98], .int 5, .non, .bl true, .tup [.tup [.int 0, .int 1]], .ref (st.length + 2), .dct [(.str [97], .int 1)], .int (-3), .str [], .ref (st.length + 3)] = l
  have e1 : evE G fr (.lst false [.tup [.con (.int 1), .con (.int 2)], .lst true [.con (.int 1), .lst false [.con (.int 2)]], .lst true [], .tup [], .con (.str [119, 101, 98]), .con (.int 5), .con .non, .con (.bl true), .tup [.tup [.con (.int 0), .con (.int 1)]], .lst true [.lst false [.con (.int 0)], .lst false [.con (.int 1)]], .dct false [.str [97]] [.con (.int 1)], .neg (.con (.int 3)), .con (.str []), .lst true [.con .non]]) [some (.ref n), none, none] st = .ok (.lst l) A := by
    rw [← hA, ← hl]
    simp [evE, evEs, fresh, alloc, isKey, putK]
  have oA : ∀ m, m < st.length → A[m]? = st[m]? := fun m hm => by rw [← hA, List.getElem?_append_left hm]
  have lA : A.length = st.length + 4 := by rw [← hA]; simp
  -- three digits
  obtain ⟨ds, B, ec, b1, b2, b3, b4⟩ := ev_comp (G := G) (fr := fr) (ρ := [some (.ref n), some (.lst l), none]) (st := A) (st1 := A) (m := true) (elt := .call "_law_draw" [.var 0, .con (.int 9)]) (it := .range1 (.con (.int 3))) (i := 2) (vs := [2]) (w := .lst (rangeL 0 3)) (all := rangeL 0 3)
    (by simp [evE, big62?]) (fun _ => rfl) (by decide) (fun k acc s => acc.length = k ∧ (∀ v ∈ acc, ∃ d : Int, v = .int d ∧ 0 ≤ d ∧ d < 9) ∧ (∃ q, s[n]? = some (.dct (penD q)) ∧ POk q ∧ q.c = p.c + k) ∧ s.length = A.length ∧ ∀ m, m ≠ n → s[m]? = A[m]?)
    ⟨rfl, fun _ h => by simp at h, ⟨p, by rw [oA n hn]; exact h, ok, by simp⟩, rfl, fun _ _ => rfl⟩ (fun k x acc s hx ⟨q1, q2, ⟨q, q3, q4, q5⟩, q6, q7⟩ => by
      have hk : k < 3 := by
        have := (List.getElem?_eq_some_iff.mp hx).1
        exact this
      obtain ⟨r, p', e, r0, r9, okp, cpp, _⟩ := draw_ok (G := g0) (N := 0) (fr := fr ++ [(wipe [some (.ref n), some (.lst l), none] [2]).set 2 (some x)]) (many := 9) q3 q4 (by omega) (by decide) (by decide)
      refine ⟨.int r, _, ev_call (ev_es2 (ev_var rfl) ev_con) hD e, by simp [q1], fun v hv => ?_, ⟨p', get_set q3, okp, by rw [cpp, q5]; omega⟩, by rw [List.length_set]; exact q6, fun m hm => by rw [List.getElem?_set_ne (Ne.symm hm)]; exact q7 m hm⟩
      rcases List.mem_append.mp hv with hv | hv
      · exact q2 v hv
      · rw [List.mem_singleton.mp hv]; exact ⟨r, rfl, r0, r9⟩)
  obtain ⟨⟨q, q3, q4, q5⟩, b5, b6⟩ := (⟨b3, b4.1, b4.2⟩ : _ ∧ _ ∧ _)
  have hds : ds.length = 3 := b1
  have vds := vv_digits hds b2
  have ec' : evE G fr (.comp true (.call "_law_draw" [.var 0, .con (.int 9)]) [2] true [2] (.range1 (.con (.int 3))) none) [some (.ref n), some (.lst l), none] A = .ok (.ref B.length) (B ++ [.lst ds]) := ec
  have hll : l.length = 14 := by rw [← hl]; rfl
  have ea : evE G fr (.bin .add (.var 1) (.lst false [.comp true (.call "_law_draw" [.var 0, .con (.int 9)]) [2] true [2] (.range1 (.con (.int 3))) none])) [some (.ref n), some (.lst l), none] A = .ok (.lst (l ++ [.ref B.length])) (B ++ [.lst ds]) := by
    rw [evE, ev_var (show ([some (Va.ref n), some (.lst l), none] : Sl)[1]? = some (some (.lst l)) from rfl), R.bind_ok, ev_lstF (ev_es1 ec'), R.bind_ok]
    simp [rd, binop, addV, hll, small, Lm]
  have q3' : (B ++ [Ob.lst ds])[n]? = some (.dct (penD q)) := by rw [List.getElem?_append_left (by omega)]; exact q3
  obtain ⟨v, p', e, hv, okp, cpp, _⟩ := pick_ok (g0 := g0) (G := g1) (N := 0) (fr := fr ++ [[some (.ref n), some (.lst l), none]]) (l := l ++ [.ref B.length]) hD1 q3' q4 (by rw [q5, show (rangeL 0 3).length = 3 from rfl]; omega) (by simp) (by simp [hll])
  refine ⟨v, p', _, ?_, get_set q3', okp, by rw [cpp, q5, show (rangeL 0 3).length = 3 from rfl]; omega, by rw [List.length_set, List.length_append, b5, lA]; omega, fun m hm hmn => ?_, ?_⟩
  · unfold runF
    rw [if_pos (show [Va.ref n].length = 1 from rfl)]
    have e2 : evSs G N fr valueIR ([Va.ref n].map some ++ List.replicate (3 - 1) none) st = .ok (.ret v) ([some (.ref n), some (.lst l), none], (B ++ [Ob.lst ds]).set n (.dct (penD p'))) :=
      (ev_cons (ev_asg e1)).trans (ev_consR (ev_ret (ev_call (ev_es2 (ev_var rfl) ea) hP e)))
    rw [e2]
    rfl
  · rw [List.getElem?_set_ne (Ne.symm hmn), List.getElem?_append_left (by omega), b6 m hmn, oA m hm]
  · have stay : ∀ m o, m ≠ n → A[m]? = some o → ((B ++ [Ob.lst ds]).set n (.dct (penD p')))[m]? = some o := fun m o hm ho => by
      rw [List.getElem?_set_ne (Ne.symm hm), List.getElem?_append_left (by rw [b5]; exact (List.getElem?_eq_some_iff.mp ho).1), b6 m hm, ho]
    rw [← hl] at hv
    simp only [List.cons_append, List.nil_append, List.mem_cons, List.mem_nil_iff, or_false] at hv
    rcases hv with rfl | rfl | rfl | rfl | rfl | rfl | rfl | rfl | rfl | rfl | rfl | rfl | rfl | rfl | rfl
    · exact .inl ⟨⟨rfl, by decide +kernel, by decide +kernel, by decide +kernel⟩, rfl⟩
    · exact .inr ⟨_, _, rfl, stay _ _ (by omega) (by rw [← hA]; simp; rfl), ⟨rfl, by decide +kernel, by decide +kernel, by decide +kernel⟩⟩
    · exact .inr ⟨_, _, rfl, stay _ _ (by omega) (by rw [← hA]; simp; rfl), ⟨rfl, by decide +kernel, by decide +kernel, by decide +kernel⟩⟩
    · exact .inl ⟨⟨rfl, by decide +kernel, by decide +kernel, by decide +kernel⟩, rfl⟩
    · exact .inl ⟨⟨rfl, by decide +kernel, by decide +kernel, by decide +kernel⟩, rfl⟩
    · exact .inl ⟨⟨rfl, by decide +kernel, by decide +kernel, by decide +kernel⟩, rfl⟩
    · exact .inl ⟨⟨rfl, by decide +kernel, by decide +kernel, by decide +kernel⟩, rfl⟩
    · exact .inl ⟨⟨rfl, by decide +kernel, by decide +kernel, by decide +kernel⟩, rfl⟩
    · exact .inl ⟨⟨rfl, by decide +kernel, by decide +kernel, by decide +kernel⟩, rfl⟩
    · exact .inr ⟨_, _, rfl, stay _ _ (by omega) (by rw [← hA]; simp; rfl), ⟨rfl, by decide +kernel, by decide +kernel, by decide +kernel⟩⟩
    · exact .inl ⟨⟨rfl, by decide +kernel, by decide +kernel, by decide +kernel⟩, rfl⟩
    · exact .inl ⟨⟨rfl, by decide +kernel, by decide +kernel, by decide +kernel⟩, rfl⟩
    · exact .inl ⟨⟨rfl, by decide +kernel, by decide +kernel, by decide +kernel⟩, rfl⟩
    · exact .inr ⟨_, _, rfl, stay _ _ (by omega) (by rw [← hA]; simp; rfl), ⟨rfl, by decide +kernel, by decide +kernel, by decide +kernel⟩⟩
    · exact .inr ⟨_, ds, rfl, by rw [List.getElem?_set_ne (by omega)]; simp, vds⟩
end M
end
section
set_option Elab.async false
set_option linter.all false
set_option maxRecDepth 10000
set_option maxHeartbeats 2000000
set_option autoImplicit false
/-! P8: the law, to the rows. -/
namespace M
variable {g0 : Pg}
theorem VOk.keep {st st' : Sto} {n : Nat} {d : List (Va × Va)} (h0 : st[n]? = some (.dct d)) (k : ∀ m, m < st.length → m ≠ n → st'[m]? = st[m]?) {v : Va} (h : VOk st v) : VOk st' v := by
  rcases h with h | ⟨m, xs, rfl, h, q⟩
  · exact .inl h
  · exact .inr ⟨m, xs, rfl, by rw [k m (List.getElem?_eq_some_iff.mp h).1 (fun z => by subst z; rw [h0] at h; cases h)]; exact h, q⟩
theorem VOk.rd {st : Sto} {v : Va} (h : VOk st v) : VV (rd st v) ∧ (isL (rd st v) = false → v = rd st v) := by
  rcases h with ⟨h, q⟩ | ⟨m, xs, rfl, h, q⟩
  · rw [rd_good h.1]; exact ⟨h, fun _ => rfl⟩
  · have : M.rd st (.ref m) = .lst xs := by simp only [M.rd, h]
    rw [this]
    exact ⟨q, fun z => by cases z⟩
theorem forL_cons {w : Va} {all : List Va} {f : Va → Sl → Sto → RS} {x : Va} {r : List Va} {ρ ρ' : Sl} {st st' : Sto} (hs : row? (rd st w) = some all) (h : f x ρ st = .ok .nx (ρ', st')) : forL w all f (x :: r) ρ st = forL w all f r ρ' st' := by
  rw [forL, if_pos (show still st w all from hs), h]
  rfl
theorem forL_nil {w : Va} {all : List Va} {f : Va → Sl → Sto → RS} {ρ : Sl} {st : Sto} (hs : row? (rd st w) = some all) : forL w all f [] ρ st = .ok .nx (ρ, st) := by
  rw [forL, if_pos (show still st w all from hs)]
theorem ev_tp4 {G : Pg} {N : Nat} {fr : Fr} {ρ : Sl} {st st1 : Sto} {i j k l : Nat} {e : E} {a b c d : Va} (h : evE G fr e ρ st = .ok (.lst [a, b, c, d]) st1) : evS G N fr (.asg (.tp [.nm i, .nm j, .nm k, .nm l]) e) ρ st = .ok .nx ((((ρ.set i (some a)).set j (some b)).set k (some c)).set l (some d), st1) := by
  rw [evS, h]
  rfl
def law1 : List S := [.asg (.nm 1) (.call "_law_pen" [.var 0]),
  .asg (.nm 2) (.comp false (.call "_law_value" [.var 1]) [5] true [5] (.range1 (.con (.int 4))) none),
  .asg (.tp [.nm 8, .nm 9, .nm 10, .nm 11]) (.comp false (.ite (.isin (.var 20) [.list]) (.bi .list [.var 20]) (.var 20)) [20] true [20] (.var 2) none)]
noncomputable def penF (g : Pg) : Fs := runF g 0 false 3 1 penIR
/-- the first three statements -/
theorem law1_ok {gp gv g1 G : Pg} {N : Nat} {ns : List Int} (hpen : G.fn.lookup "_law_pen" = some (penF gp)) (hval : G.fn.lookup "_law_value" = some (valueF gv)) (hD : gv.fn.lookup "_law_draw" = some (drawF g0)) (hP : gv.fn.lookup "_law_pick" = some (pickF g1)) (hD1 : g1.fn.lookup "_law_draw" = some (drawF g0)) :
    ∃ vals a b c d p st, (∀ rest, evSs G N [] (law1 ++ rest) (some (.lck (ns.map .int)) :: List.replicate 20 none) [] = evSs G N [] rest [some (.lck (ns.map .int)), some (.ref 0), some (.lst vals), none, none, none, none, none, some a, some b, some c, some d, none, none, none, none, none, none, none, none, none] st) ∧
      vals.length = 4 ∧ (∀ v ∈ vals, VOk st v) ∧ (∀ v ∈ [a, b, c, d], VV v) ∧ st[0]? = some (.dct (penD p)) ∧ POk p ∧ p.c = 16 := by
  obtain ⟨p0, e0, ok0, c0, _⟩ := pen_ok (G := gp) (N := 0) (fr := [some (.lck (ns.map .int)) :: List.replicate 20 none]) (st := []) ns
  have s1 := ev_asg (N := N) (i := 1) (ev_call (G := G) (fr := []) (ρ := some (.lck (ns.map .int)) :: List.replicate 20 none) (ev_es1 (ev_var (i := 0) rfl)) hpen e0)
  have s1' : evS G N [] (.asg (.nm 1) (.call "_law_pen" [.var 0])) (some (.lck (ns.map .int)) :: List.replicate 20 none) [] = .ok .nx ([some (.lck (ns.map .int)), some (.ref 0), none, none, none, none, none, none, none, none, none, none, none, none, none, none, none, none, none, none, none], [.dct (penD p0)]) := s1
  generalize hρ : ([some (.lck (ns.map .int)), some (.ref 0), none, none, none, none, none, none, none, none, none, none, none, none, none, none, none, none, none, none, none] : Sl) = ρ1 at s1'
  -- the values
  obtain ⟨vals, B, ec, b1, b2, q, q3, q4, q5⟩ := ev_comp (G := G) (fr := []) (ρ := ρ1) (st := [.dct (penD p0)]) (st1 := [.dct (penD p0)]) (m := false) (elt := .call "_law_value" [.var 1]) (it := .range1 (.con (.int 4))) (i := 5) (vs := [5]) (w := .lst (rangeL 0 4)) (all := rangeL 0 4)
    (by simp [evE, big62?]) (fun _ => rfl) (by decide) (fun k acc s => acc.length = k ∧ (∀ v ∈ acc, VOk s v) ∧ ∃ q, s[0]? = some (.dct (penD q)) ∧ POk q ∧ q.c = 4 * k)
    ⟨rfl, fun _ h => by simp at h, p0, rfl, ok0, by simp [c0]⟩ (fun k x acc s hx ⟨q1, q2, q, q3, q4, q5⟩ => by
      have hk : k < 4 := (List.getElem?_eq_some_iff.mp hx).1
      obtain ⟨v, p', s', e, e1, e2, e3, e4, e5, e6⟩ := value_ok (g0 := g0) (g1 := g1) (G := gv) (N := 0) (fr := [] ++ [(wipe ρ1 [5]).set 5 (some x)]) hD hP hD1 q3 q4 (by omega)
      refine ⟨v, s', ev_call (ev_es1 (ev_var (by rw [← hρ]; rfl))) hval e, by simp [q1], fun w hw => ?_, p', e1, e2, by rw [e3, q5]; omega⟩
      rcases List.mem_append.mp hw with hw | hw
      · exact (q2 w hw).keep q3 e5
      · rw [List.mem_singleton.mp hw]; exact e6)
  have hvl : vals.length = 4 := b1
  have s2 := ev_asg (G := G) (N := N) (fr := []) (i := 2) (ρ := ρ1) ec
  generalize hρ2 : ρ1.set 2 (some (.lst vals)) = ρ2 at s2
  -- .. as plain values
  obtain ⟨cs, B2, ec2, c1, rfl, c3⟩ := ev_comp (G := G) (fr := []) (ρ := ρ2) (st := B) (st1 := B) (m := false) (elt := .ite (.isin (.var 20) [.list]) (.bi .list [.var 20]) (.var 20)) (it := .var 2) (i := 20) (vs := [20]) (w := .lst vals) (all := vals)
    (ev_var (by rw [← hρ2, ← hρ]; rfl)) (fun _ => rfl) (by rw [hvl]; decide) (fun k acc s => acc.length = k ∧ s = B ∧ ∀ v ∈ acc, VV v)
    ⟨rfl, rfl, fun _ h => by simp at h⟩ (fun k x acc s hx ⟨q1, qs, q2⟩ => by
      subst qs
      obtain ⟨vv, hL⟩ := (b2 x (List.mem_of_getElem? hx)).rd
      refine ⟨rd s x, s, ?_, by simp [q1], rfl, fun w hw => ?_⟩
      · have h20 : ((wipe ρ2 [20]).set 20 (some x))[20]? = some (some x) := by rw [← hρ2, ← hρ]; rfl
        generalize (wipe ρ2 [20]).set 20 (some x) = ρ3 at h20
        have hg := vv.1
        have ei : evE G [] (.isin (.var 20) [.list]) ρ3 s = .ok (.bl (isL (rd s x))) s := by
          rw [evE, ev_var h20, R.bind_ok]
          revert hg; generalize rd s x = y; intro hg
          cases y <;> first | rfl | cases hg
        rw [evE, ei]
        cases z : isL (rd s x) with
        | false =>
          show evE G [] (.var 20) ρ3 s = _
          rw [← hL z]
          exact ev_var h20
        | true =>
          show evE G [] (.bi .list [.var 20]) ρ3 s = _
          rw [evE, ev_es1 (ev_var h20), R.bind_ok]
          simp only [List.map_cons, List.map_nil, biop, bi1, lstV]
          revert z; generalize rd s x = y; intro z
          cases y <;> first | rfl | cases z
      · rcases List.mem_append.mp hw with hw | hw
        · exact q2 w hw
        · rw [List.mem_singleton.mp hw]; exact vv)
  rw [hvl] at c1
  obtain ⟨a, b, c, d, rfl⟩ : ∃ a b c d, cs = [a, b, c, d] := by
    match cs, c1 with
    | [a, b, c, d], _ => exact ⟨a, b, c, d, rfl⟩
  have s3 := ev_tp4 (G := G) (N := N) (fr := []) (i := 8) (j := 9) (k := 10) (l := 11) (ρ := ρ2) ec2
  refine ⟨vals, a, b, c, d, q, B2, fun rest => ?_, hvl, b2, c3, q3, q4, q5⟩
  show evSs G N [] (_ :: _ :: _ :: rest) _ _ = _
  rw [ev_cons s1', ev_cons s2, ev_cons s3, ← hρ2, ← hρ]
  rfl
end M
end
section
set_option Elab.async false
set_option linter.all false
set_option maxRecDepth 10000
set_option maxHeartbeats 2000000
set_option autoImplicit false
/-! P9: the rows. -/
namespace M
variable {g0 : Pg}
def base (s t vals v w a b c d : Option Va) : Sl := [s, t, vals, v, w, none, none, none, a, b, c, d, none, none, none, none, none, none, none, none, none]
def vs4 : List E := [.var 8, .var 9, .var 10, .var 11]
def law2 : List S := [.asg (.nm 3) (.call "_law_bare" []),
  .fors [4] true (.lst false [.call "_law_made_a" vs4, .call "_law_made_b" vs4, .call "_law_made_c" vs4, .call "_law_made_d" vs4, .call "_law_made_e" vs4]) [.asg (.nm 3) (.bin .add (.var 3) (.var 4))]]
/-- what a maker of rows does -/
def RowsF (names : List String) (F : Fs) (vs : List Va) (n : Nat) : Prop := ∀ (fr : Fr) (st : Sto), ∃ st' rs, F fr vs st = .ok (.ref st.length) st' ∧ st'[st.length]? = some (.lst (rs.map Rw.va)) ∧ Rows names st' (st.length + 1) rs ∧ rs.length = n ∧ st.length < st'.length ∧ ∀ m, m < st.length → st'[m]? = st[m]?
theorem for_add {G : Pg} {N : Nat} {s t vals w a b c d : Option Va} {v x : Va} {A B : List Va} {st : Sto} (h1 : rd st v = .lst A) (h2 : rd st x = .lst B) (hs : A.length + B.length ≤ 1000) :
    (match bindTg st (base s t vals (some v) w a b c d) [4] true x with
      | none => R.bad
      | some ρ1 => evSs G N [] [.asg (.nm 3) (.bin .add (.var 3) (.var 4))] ρ1 st) = .ok .nx (base s t vals (some (.lst (A ++ B))) (some x) a b c d, st) := by
  show evSs G N [] [.asg (.nm 3) (.bin .add (.var 3) (.var 4))] (base s t vals (some v) (some x) a b c d) st = _
  have e : evE G [] (.bin .add (.var 3) (.var 4)) (base s t vals (some v) (some x) a b c d) st = .ok (.lst (A ++ B)) st := by
    rw [evE, ev_var (i := 3) rfl, R.bind_ok, ev_var (i := 4) rfl, R.bind_ok, h1, h2]
    simp only [binop, addV, show small (A.length + B.length) = true from by unfold small; exact decide_eq_true (by unfold Lm; omega), if_true, R.of_some]
  exact (ev_cons (ev_asg e)).trans ev_nil
theorem keepIns {st st' : Sto} (h : ∀ m, m < st.length → st'[m]? = st[m]?) : InsK st st' := fun n C fs e => by rw [h n (List.getElem?_eq_some_iff.mp e).1]; exact e
theorem law2_ok {G : Pg} {N : Nat} {names : List String} {s t vals a b c d : Va} {Fb Fa1 Fb1 Fc1 Fd1 Fe1 : Fs} {n0 n1 n2 n3 n4 n5 : Nat}
    (hb : G.fn.lookup "_law_bare" = some Fb) (h1 : G.fn.lookup "_law_made_a" = some Fa1) (h2 : G.fn.lookup "_law_made_b" = some Fb1) (h3 : G.fn.lookup "_law_made_c" = some Fc1) (h4 : G.fn.lookup "_law_made_d" = some Fd1) (h5 : G.fn.lookup "_law_made_e" = some Fe1)
    (rb : RowsF names Fb [] n0) (r1 : RowsF names Fa1 [a, b, c, d] n1) (r2 : RowsF names Fb1 [a, b, c, d] n2) (r3 : RowsF names Fc1 [a, b, c, d] n3) (r4 : RowsF names Fd1 [a, b, c, d] n4) (r5 : RowsF names Fe1 [a, b, c, d] n5) (hn : n0 + n1 + n2 + n3 + n4 + n5 ≤ 1000) (st : Sto) :
    ∃ rs w st', (∀ rest, evSs G N [] (law2 ++ rest) (base (some s) (some t) (some vals) none none (some a) (some b) (some c) (some d)) st = evSs G N [] rest (base (some s) (some t) (some vals) (some (.lst (rs.map Rw.va))) (some w) (some a) (some b) (some c) (some d)) st') ∧
      rs.length = n0 + n1 + n2 + n3 + n4 + n5 ∧ Rows names st' (st.length + 1) rs ∧ st.length ≤ st'.length ∧ ∀ m, m < st.length → st'[m]? = st[m]? := by
  obtain ⟨s0, R0, e0, l0, w0, c0, g0', k0⟩ := rb ([] ++ [base (some s) (some t) (some vals) none none (some a) (some b) (some c) (some d)]) st
  have t0 := ev_asg (G := G) (N := N) (fr := []) (i := 3) (ev_call (G := G) (fr := []) (ρ := base (some s) (some t) (some vals) none none (some a) (some b) (some c) (some d)) ev_es0 hb e0)
  obtain ⟨s1, R1, e1, l1, w1, c1, g1, k1⟩ := r1 ([] ++ [base (some s) (some t) (some vals) (some (.ref st.length)) none (some a) (some b) (some c) (some d)]) s0
  obtain ⟨s2, R2, e2, l2, w2, c2, g2, k2⟩ := r2 ([] ++ [base (some s) (some t) (some vals) (some (.ref st.length)) none (some a) (some b) (some c) (some d)]) s1
  obtain ⟨s3, R3, e3, l3, w3, c3, g3, k3⟩ := r3 ([] ++ [base (some s) (some t) (some vals) (some (.ref st.length)) none (some a) (some b) (some c) (some d)]) s2
  obtain ⟨s4, R4, e4, l4, w4, c4, g4, k4⟩ := r4 ([] ++ [base (some s) (some t) (some vals) (some (.ref st.length)) none (some a) (some b) (some c) (some d)]) s3
  obtain ⟨s5, R5, e5, l5, w5, c5, g5, k5⟩ := r5 ([] ++ [base (some s) (some t) (some vals) (some (.ref st.length)) none (some a) (some b) (some c) (some d)]) s4
  have args : ∀ z, evEs G [] vs4 (base (some s) (some t) (some vals) (some (.ref st.length)) none (some a) (some b) (some c) (some d)) z = .ok [a, b, c, d] z := fun z => ev_esC (ev_var (i := 8) rfl) (ev_esC (ev_var (i := 9) rfl) (ev_es2 (ev_var (i := 10) rfl) (ev_var (i := 11) rfl)))
  have el := ev_lstF (ev_esC (ev_call (G := G) (args s0) h1 e1) (ev_esC (ev_call (args s1) h2 e2) (ev_esC (ev_call (args s2) h3 e3) (ev_es2 (ev_call (args s3) h4 e4) (ev_call (args s4) h5 e5)))))
  have q0 : rd s5 (.ref st.length) = .lst (R0.map Rw.va) := by simp only [rd]; rw [k5 _ (by omega), k4 _ (by omega), k3 _ (by omega), k2 _ (by omega), k1 _ (by omega), l0]
  have q1 : rd s5 (.ref s0.length) = .lst (R1.map Rw.va) := by simp only [rd]; rw [k5 _ (by omega), k4 _ (by omega), k3 _ (by omega), k2 _ (by omega), l1]
  have q2 : rd s5 (.ref s1.length) = .lst (R2.map Rw.va) := by simp only [rd]; rw [k5 _ (by omega), k4 _ (by omega), k3 _ (by omega), l2]
  have q3 : rd s5 (.ref s2.length) = .lst (R3.map Rw.va) := by simp only [rd]; rw [k5 _ (by omega), k4 _ (by omega), l3]
  have q4 : rd s5 (.ref s3.length) = .lst (R4.map Rw.va) := by simp only [rd]; rw [k5 _ (by omega), l4]
  have q5 : rd s5 (.ref s4.length) = .lst (R5.map Rw.va) := by simp only [rd]; rw [l5]
  have i4 := keepIns k5
  have i3 := (keepIns k4).trans i4
  have i2 := (keepIns k3).trans i3
  have i1 := (keepIns k2).trans i2
  have i0 := (keepIns k1).trans i1
  have u0 := w0.keep i0
  have u1 := w1.keep i1
  have u2 := w2.keep i2
  have u3 := w3.keep i3
  have u4 := w4.keep i4
  refine ⟨((((R0 ++ R1) ++ R2) ++ R3) ++ R4) ++ R5, .ref s4.length, s5, fun rest => ?_, by simp only [List.length_append]; omega, ?_, by omega, fun m hm => by rw [k5 _ (by omega), k4 _ (by omega), k3 _ (by omega), k2 _ (by omega), k1 _ (by omega), k0 _ hm]⟩
  · show evSs G N [] (_ :: _ :: rest) _ _ = _
    rw [ev_cons t0]
    refine ev_cons (s := .fors [4] true _ _) ?_
    show evS G N [] (.fors [4] true _ _) (base (some s) (some t) (some vals) (some (.ref st.length)) none (some a) (some b) (some c) (some d)) s0 = _
    rw [evS, el, lift_ok, R.bind_ok]
    simp only [rd, row?]
    refine (forL_cons rfl (for_add q0 q1 (by simp only [List.length_map]; omega))).trans ?_
    refine (forL_cons rfl (for_add rfl q2 (by simp only [List.length_map, List.length_append]; omega))).trans ?_
    refine (forL_cons rfl (for_add rfl q3 (by simp only [List.length_map, List.length_append]; omega))).trans ?_
    refine (forL_cons rfl (for_add rfl q4 (by simp only [List.length_map, List.length_append]; omega))).trans ?_
    refine (forL_cons rfl (for_add rfl q5 (by simp only [List.length_map, List.length_append]; omega))).trans ?_
    rw [forL_nil rfl]
    simp only [List.map_append]
  · have lt0 : ∀ x ∈ R0, x.i < s0.length := fun x hx => by have := w0.lt hx; omega
    have lt1 : ∀ x ∈ R1, x.i < s1.length := fun x hx => by have := w1.lt hx; omega
    have lt2 : ∀ x ∈ R2, x.i < s2.length := fun x hx => by have := w2.lt hx; omega
    have lt3 : ∀ x ∈ R3, x.i < s3.length := fun x hx => by have := w3.lt hx; omega
    have lt4 : ∀ x ∈ R4, x.i < s4.length := fun x hx => by have := w4.lt hx; omega
    have a1 := u0.app u1 (fun x hx => by have := lt0 x hx; omega) (by omega)
    have b1 : ∀ x ∈ R0 ++ R1, x.i < s1.length := fun x hx => by
      rcases List.mem_append.mp hx with hx | hx
      · have := lt0 x hx; omega
      · exact lt1 x hx
    have a2 := a1.app u2 (fun x hx => by have := b1 x hx; omega) (by omega)
    have b2 : ∀ x ∈ (R0 ++ R1) ++ R2, x.i < s2.length := fun x hx => by
      rcases List.mem_append.mp hx with hx | hx
      · have := b1 x hx; omega
      · exact lt2 x hx
    have a3 := a2.app u3 (fun x hx => by have := b2 x hx; omega) (by omega)
    have b3 : ∀ x ∈ ((R0 ++ R1) ++ R2) ++ R3, x.i < s3.length := fun x hx => by
      rcases List.mem_append.mp hx with hx | hx
      · have := b2 x hx; omega
      · exact lt3 x hx
    have a4 := a3.app u4 (fun x hx => by have := b3 x hx; omega) (by omega)
    have b4 : ∀ x ∈ (((R0 ++ R1) ++ R2) ++ R3) ++ R4, x.i < s4.length := fun x hx => by
      rcases List.mem_append.mp hx with hx | hx
      · have := b3 x hx; omega
      · exact lt4 x hx
    exact a4.app w5 (fun x hx => by have := b4 x hx; omega) (by omega)
end M
end
section
set_option Elab.async false
set_option linter.all false
set_option maxRecDepth 10000
set_option maxHeartbeats 2000000
set_option autoImplicit false
/-! P10: the law's checks of rows. -/
namespace M
variable {g0 : Pg}
def law3 : S := .fors [12, 13, 14, 15, 16, 17] false (.var 3) [.asg (.nm 18) (.bi .repr [.comp false (.call "_law_copy" [.var 20]) [20] true [20] (.var 17) none]), .ifs (.or (.isC true (.var 14) (.bl true)) (.or (.cmp .ne (.bi .repr [.var 15]) (.var 18)) (.or (.cmp .ne (.bi .repr [.var 16]) (.var 18)) (.or (.no (.cmp .eq (.var 12) (.var 12))) (.cmp .eq (.var 12) (.var 13)))))) [.ret (.con (.bl false))] []]
def law4 : S := .fors [5] true (.range1 (.bi .len [.var 3])) [.asg (.nm 19) (.idx (.idx (.var 3) (.bin .mod (.bi .int [.bin .add (.bin .add (.var 5) (.con (.int 1))) (.call "_law_draw" [.var 1, .bin .sub (.bi .len [.var 3]) (.con (.int 1))])]) (.bi .len [.var 3]))) (.con (.int 0))), .ifs (.or (.cmp .eq (.idx (.idx (.var 3) (.var 5)) (.con (.int 0))) (.var 19)) (.or (.cmp .eq (.var 19) (.idx (.idx (.var 3) (.var 5)) (.con (.int 0)))) (.no (.cmp .ne (.idx (.idx (.var 3) (.var 5)) (.con (.int 0))) (.var 19))))) [.ret (.con (.bl false))] []]
theorem ev_orF {G : Pg} {fr : Fr} {ρ : Sl} {a b : E} {x : Va} {st st1 st2 : Sto} (ha : evE G fr a ρ st = .ok (.bl false) st1) (hb : evE G fr b ρ st1 = .ok x st2) : evE G fr (.or a b) ρ st = .ok x st2 := by
  simp [evE, ha, truth, hb]
theorem ev_no {G : Pg} {fr : Fr} {ρ : Sl} {a : E} {b : Bool} {st st1 : Sto} (ha : evE G fr a ρ st = .ok (.bl b) st1) : evE G fr (.no a) ρ st = .ok (.bl (!b)) st1 := by
  simp [evE, ha, truth]
theorem cmp_neS {G : Pg} {st : Sto} {x : List Nat} : cmpV G .ne st (.str x) (.str x) = some false := by simp [cmpV, idq, eqv?, dat, rd, veq]
theorem cmp_eqS {G : Pg} {st : Sto} {x : List Nat} : cmpV G .eq st (.str x) (.str x) = some true := by simp [cmpV, idq, eqv?, dat, rd, veq]
theorem cmp_eqR {G : Pg} {st : Sto} {i j : Nat} {C D : String} {fs gs : List (String × Va)} (hi : st[i]? = some (.ins C fs)) (hj : st[j]? = some (.ins D gs)) (hC : G.idn.contains C = true) (hD : G.idn.contains D = true) : cmpV G .eq st (.ref i) (.ref j) = some (decide (i = j)) := by
  simp only [cmpV, idq, hi, hj, hC, hD, Bool.and_self, if_true]
theorem cmp_neR {G : Pg} {st : Sto} {i j : Nat} {C D : String} {fs gs : List (String × Va)} (hi : st[i]? = some (.ins C fs)) (hj : st[j]? = some (.ins D gs)) (hC : G.idn.contains C = true) (hD : G.idn.contains D = true) : cmpV G .ne st (.ref i) (.ref j) = some (!decide (i = j)) := by
  simp only [cmpV, idq, hi, hj, hC, hD, Bool.and_self, if_true]
theorem repr_cs {cs : List Va} (h : ∀ v ∈ cs, VV v) (h4 : cs.length ≤ 4) : reprV (.lst (cs.map cp)) = some (.str (shown (.lst (cs.map cp)))) := by
  unfold reprV
  have e1 : datR Dp (.lst (cs.map cp)) = true := by
    show (cs.map cp).all (datR 19) = true
    rw [List.all_eq_true]
    intro v hv
    obtain ⟨c, hc, rfl⟩ := List.mem_map.mp hv
    exact (h c hc).2.1
  have e2 : ∀ l : List Va, (∀ v ∈ l, VV v) → szRs (l.map cp) ≤ l.length * 8002 := fun l hl => by
    induction l with
    | nil => simp [szRs]
    | cons a l ih =>
      have := (hl a (List.mem_cons_self ..)).2.2.1
      have := ih fun v hv => hl v (List.mem_cons_of_mem _ hv)
      simp only [List.map_cons, szRs, List.length_cons]
      omega
  have e3 : small (szR (.lst (cs.map cp))) = true := by
    have := e2 cs h
    unfold small
    refine decide_eq_true ?_
    simp only [szR]
    unfold Lm
    omega
  rw [e1, e3]
  rfl
theorem ev_repr {G : Pg} {fr : Fr} {ρ : Sl} {a : E} {v w : Va} {st st1 : Sto} (ha : evE G fr a ρ st = .ok v st1) (h : reprV (rd st1 v) = some w) : evE G fr (.bi .repr [a]) ρ st = .ok w st1 := by
  rw [evE, ev_es1 ha, R.bind_ok]
  simp only [List.map_cons, List.map_nil, biop, bi1, h, R.of_some]
structure LI (vals rows : Va) (ρ : Sl) : Prop where
  len : ρ.length = 21
  pen : ρ[1]? = some (some (.ref 0))
  vals : ρ[2]? = some (some vals)
  rows : ρ[3]? = some (some rows)
theorem LI.set {vals rows v : Va} {ρ : Sl} (h : LI vals rows ρ) {i : Nat} (hi : 3 < i) {o : Option Va} : LI vals rows (ρ.set i o) :=
  ⟨by rw [List.length_set]; exact h.len, by rw [List.getElem?_set_ne (by omega)]; exact h.pen, by rw [List.getElem?_set_ne (by omega)]; exact h.vals, by rw [List.getElem?_set_ne (by omega)]; exact h.rows⟩
theorem ev_for {G : Pg} {N : Nat} {fr : Fr} {ρ : Sl} {st st1 : Sto} {tg : List Nat} {one : Bool} {it : E} {b : List S} {w : Va} {all : List Va} (hit : evE G fr it ρ st = .ok w st1) (hw : ∀ s, row? (rd s w) = some all) (P : Nat → Sl → Sto → Prop) (h0 : P 0 ρ st1)
    (step : ∀ i x ρ st, all[i]? = some x → P i ρ st → ∃ ρ1 ρ' st', bindTg st ρ tg one x = some ρ1 ∧ evSs G N fr b ρ1 st = .ok .nx (ρ', st') ∧ P (i + 1) ρ' st') : ∃ ρ' st', evS G N fr (.fors tg one it b) ρ st = .ok .nx (ρ', st') ∧ P all.length ρ' st' := by
  obtain ⟨ρ', st', e, p⟩ := forL_inv hw (f := fun x ρ st => match bindTg st ρ tg one x with
      | none => .bad
      | some ρ1 => evSs G N fr b ρ1 st) P (fun i x ρ st hx hp => by
    obtain ⟨ρ1, ρ', st', e1, e2, p⟩ := step i x ρ st hx hp
    exact ⟨ρ', st', by simp only [e1, e2], p⟩) all.length 0 ρ st1 (by omega) h0
  rw [List.drop_zero] at e
  refine ⟨ρ', st', ?_, p⟩
  rw [evS, hit, lift_ok, R.bind_ok]
  simp only [hw]
  exact e
theorem law3_ok {G gc : Pg} {N : Nat} {names : List String} {rs : List Rw} {vals : Va} {ρ : Sl} {st : Sto} {lo : Nat} (hcopy : G.fn.lookup "_law_copy" = some (copF gc)) (hn : G.idn = names) (hR : Rows names st lo rs) (li : LI vals (.lst (rs.map Rw.va)) ρ) :
    ∃ ρ', evS G N [] law3 ρ st = .ok .nx (ρ', st) ∧ LI vals (.lst (rs.map Rw.va)) ρ' := by
  obtain ⟨ρ', st', e, p1, p2⟩ := ev_for (G := G) (N := N) (fr := []) (ρ := ρ) (st := st) (st1 := st) (tg := [12, 13, 14, 15, 16, 17]) (one := false) (it := .var 3) (b := [.asg (.nm 18) (.bi .repr [.comp false (.call "_law_copy" [.var 20]) [20] true [20] (.var 17) none]), .ifs (.or (.isC true (.var 14) (.bl true)) (.or (.cmp .ne (.bi .repr [.var 15]) (.var 18)) (.or (.cmp .ne (.bi .repr [.var 16]) (.var 18)) (.or (.no (.cmp .eq (.var 12) (.var 12))) (.cmp .eq (.var 12) (.var 13)))))) [.ret (.con (.bl false))] []])
    (w := .lst (rs.map Rw.va)) (all := rs.map Rw.va) (ev_var li.rows) (fun _ => rfl) (fun _ ρ s => s = st ∧ LI vals (.lst (rs.map Rw.va)) ρ) ⟨rfl, li⟩ (fun k x ρ s hx ⟨hs, q⟩ => by
      subst hs
      rw [List.getElem?_map] at hx
      obtain ⟨r, hr, rfl⟩ : ∃ r, rs[k]? = some r ∧ r.va = x := by
        cases z : rs[k]? with
        | none => rw [z] at hx; cases hx
        | some r => rw [z] at hx; exact ⟨r, rfl, Option.some.inj hx⟩
      have ro := hR.ok r (List.mem_of_getElem? hr)
      generalize hρ1 : (((((ρ.set 12 (some (.ref r.i))).set 13 (some (.ref (r.i + 1)))).set 14 (some (.bl true))).set 15 (some (.lst (r.cs.map cp)))).set 16 (some (.lst (r.cs.map cp)))).set 17 (some (.lst r.cs)) = ρ1
      have L := q.len
      have li1 : LI vals (.lst (rs.map Rw.va)) ρ1 := by
        rw [← hρ1]
        exact (((((q.set (v := vals) (by decide)).set (v := vals) (by decide)).set (v := vals) (by decide)).set (v := vals) (by decide)).set (v := vals) (by decide)).set (v := vals) (by decide)
      have k12 : ρ1[12]? = some (some (.ref r.i)) := by rw [← hρ1]; simp [L]
      have k13 : ρ1[13]? = some (some (.ref (r.i + 1))) := by rw [← hρ1]; simp [L]
      have k14 : ρ1[14]? = some (some (.bl true)) := by rw [← hρ1]; simp [L]
      have k15 : ρ1[15]? = some (some (.lst (r.cs.map cp))) := by rw [← hρ1]; simp [L]
      have k16 : ρ1[16]? = some (some (.lst (r.cs.map cp))) := by rw [← hρ1]; simp [L]
      have k17 : ρ1[17]? = some (some (.lst r.cs)) := by rw [← hρ1]; simp [L]
      have eb : bindTg s ρ [12, 13, 14, 15, 16, 17] false r.va = some ρ1 := by rw [← hρ1]; rfl
      -- due
      obtain ⟨l, s2, ec, e1, rfl⟩ := ev_comp (G := G) (fr := []) (ρ := ρ1) (st := s) (st1 := s) (m := false) (elt := .call "_law_copy" [.var 20]) (it := .var 17) (i := 20) (vs := [20]) (w := .lst r.cs) (all := r.cs) (ev_var k17) (fun _ => rfl)
        (by unfold small; exact decide_eq_true (by have := ro.four; unfold Lm; omega)) (fun k acc s' => acc = (r.cs.take k).map cp ∧ s' = s) ⟨rfl, rfl⟩ (fun k x acc s' hx ⟨a1, a2⟩ => by
          subst a2
          have vx := ro.vv x (List.mem_of_getElem? hx)
          refine ⟨cp x, s', ev_call (ev_es1 (ev_var (v := x) ?_)) hcopy (cop_ok (rd_good vx.1) vx.1 fun _ => rfl), ?_, rfl⟩
          · exact List.getElem?_set_self (by simp [wipe, li1.len])
          · rw [a1, List.take_succ, hx]; simp)
      rw [List.take_length] at e1
      subst e1
      have ed := ev_asg (G := G) (N := N) (i := 18) (ev_repr ec (repr_cs ro.vv ro.four))
      generalize hT : shown (.lst (r.cs.map cp)) = T at ed
      have hrep : reprV (.lst (r.cs.map cp)) = some (.str T) := by rw [← hT]; exact repr_cs ro.vv ro.four
      generalize hρ2 : ρ1.set 18 (some (.str T)) = ρ2 at ed
      have li2 : LI vals (.lst (rs.map Rw.va)) ρ2 := by rw [← hρ2]; exact li1.set (v := vals) (by decide)
      have j : ∀ i, i ≠ 18 → ρ2[i]? = ρ1[i]? := fun i hi => by rw [← hρ2, List.getElem?_set_ne (Ne.symm hi)]
      have j18 : ρ2[18]? = some (some (.str T)) := by rw [← hρ2]; exact List.getElem?_set_self (by rw [li1.len]; decide)
      have c1 : evE G [] (.isC true (.var 14) (.bl true)) ρ2 s2 = .ok (.bl false) s2 := by
        rw [evE, ev_var (by rw [j 14 (by decide)]; exact k14), R.bind_ok]
        rfl
      have h15 : evE G [] (.var 15) ρ2 s2 = .ok (.lst (r.cs.map cp)) s2 := ev_var (by rw [j 15 (by decide)]; exact k15)
      have h16 : evE G [] (.var 16) ρ2 s2 = .ok (.lst (r.cs.map cp)) s2 := ev_var (by rw [j 16 (by decide)]; exact k16)
      have c2 := ev_cmp (G := G) (fr := []) (op := .ne) (ev_repr h15 hrep) (ev_var j18) cmp_neS
      have c3 := ev_cmp (G := G) (fr := []) (op := .ne) (ev_repr h16 hrep) (ev_var j18) cmp_neS
      have h12 := ev_var (G := G) (fr := []) (st := s2) (show ρ2[12]? = _ by rw [j 12 (by decide)]; exact k12)
      have h13 := ev_var (G := G) (fr := []) (st := s2) (show ρ2[13]? = _ by rw [j 13 (by decide)]; exact k13)
      have idn : G.idn.contains r.C = true := by rw [hn]; exact ro.idn
      have c4 := ev_no (ev_cmp (op := .eq) h12 h12 (cmp_eqR ro.one ro.one idn idn))
      have c5 := ev_cmp (op := .eq) h12 h13 (cmp_eqR ro.one ro.two idn idn)
      rw [decide_eq_true rfl] at c4
      rw [decide_eq_false (by omega)] at c5
      exact ⟨ρ1, ρ2, s2, eb, (ev_cons ed).trans ((ev_cons ((ev_ifF (ev_orF c1 (ev_orF c2 (ev_orF c3 (ev_orF c4 c5))))).trans ev_nil)).trans ev_nil), rfl, li2⟩)
  subst p1
  exact ⟨ρ', e, p2⟩
end M
end
section
set_option Elab.async false
set_option linter.all false
set_option maxRecDepth 10000
set_option maxHeartbeats 2000000
set_option autoImplicit false
/-! P11: the law's checks of rows: no two alike. -/
namespace M
variable {g0 : Pg}
theorem turn_ne {n k r : Int} (h0 : 0 ≤ k) (hk : k < n) (h1 : 0 ≤ r) (hr : r < n - 1) : (k + 1 + r) % n ≠ k ∧ 0 ≤ (k + 1 + r) % n ∧ (k + 1 + r) % n < n := by
  refine ⟨?_, Int.emod_nonneg _ (by omega), Int.emod_lt_of_pos _ (by omega)⟩
  by_cases h : k + 1 + r < n
  · rw [Int.emod_eq_of_lt (by omega) h]; omega
  · have e : k + 1 + r = (k + 1 + r - n) + n := by omega
    rw [e, Int.add_emod_right, Int.emod_eq_of_lt (by omega) (by omega)]
    omega
theorem rows_ne {names : List String} {st : Sto} {lo : Nat} {rs : List Rw} (h : Rows names st lo rs) {a b : Nat} {x y : Rw} (ha : rs[a]? = some x) (hb : rs[b]? = some y) (n : a ≠ b) : x.i ≠ y.i := by
  have up := h.up
  rw [List.pairwise_map, List.pairwise_iff_getElem] at up
  obtain ⟨la, rfl⟩ := List.getElem?_eq_some_iff.mp ha
  obtain ⟨lb, rfl⟩ := List.getElem?_eq_some_iff.mp hb
  rcases Nat.lt_or_gt_of_ne n with z | z
  · exact Nat.ne_of_lt (up a b la lb z)
  · exact (Nat.ne_of_lt (up b a lb la z)).symm
theorem ev_row {G : Pg} {fr : Fr} {ρ : Sl} {rs : List Rw} {e : E} {st st1 : Sto} {j : Int} {r : Rw} (h3 : ρ[3]? = some (some (.lst (rs.map Rw.va)))) (he : evE G fr e ρ st = .ok (.int j) st1) (h0 : 0 ≤ j) (hr : rs[j.toNat]? = some r) : evE G fr (.idx (.idx (.var 3) e) (.con (.int 0))) ρ st = .ok (.ref r.i) st1 := by
  have hl := (List.getElem?_eq_some_iff.mp hr).1
  refine ev_idx (ev_idx (ev_var h3) he ?_) ev_con ?_ (x := r.va)
  · simp only [rd, idxop]
    rw [seqI_in h0 (by rw [List.length_map]; omega), Option.bind_some, List.getElem?_map, hr]
    rfl
  · rfl
theorem law4_ok {G : Pg} {N : Nat} {names : List String} {rs : List Rw} {vals : Va} {ρ : Sl} {st : Sto} {lo : Nat} {p : Pn} (hD : G.fn.lookup "_law_draw" = some (drawF g0)) (hn : G.idn = names) (hR : Rows names st lo rs) (li : LI vals (.lst (rs.map Rw.va)) ρ) (h : st[0]? = some (.dct (penD p))) (ok : POk p) (hc : p.c < 2 ^ 20) (h2 : 2 ≤ rs.length) (h3 : rs.length ≤ 1000) :
    ∃ ρ' st', evS G N [] law4 ρ st = .ok .nx (ρ', st') ∧ LI vals (.lst (rs.map Rw.va)) ρ' ∧ st'.length = st.length ∧ (∀ m, m ≠ 0 → st'[m]? = st[m]?) ∧ ∃ p', st'[0]? = some (.dct (penD p')) := by
  have hrl : (rangeL 0 ((rs.map Rw.va).length : Int)).length = rs.length := by simp [rangeL]
  obtain ⟨ρ', st', e, p1, p2, p3, q, p4, _⟩ := ev_for (G := G) (N := N) (fr := []) (ρ := ρ) (st := st) (st1 := st) (tg := [5]) (one := true) (it := .range1 (.bi .len [.var 3])) (b := [.asg (.nm 19) (.idx (.idx (.var 3) (.bin .mod (.bi .int [.bin .add (.bin .add (.var 5) (.con (.int 1))) (.call "_law_draw" [.var 1, .bin .sub (.bi .len [.var 3]) (.con (.int 1))])]) (.bi .len [.var 3]))) (.con (.int 0))), .ifs (.or (.cmp .eq (.idx (.idx (.var 3) (.var 5)) (.con (.int 0))) (.var 19)) (.or (.cmp .eq (.var 19) (.idx (.idx (.var 3) (.var 5)) (.con (.int 0)))) (.no (.cmp .ne (.idx (.idx (.var 3) (.var 5)) (.con (.int 0))) (.var 19))))) [.ret (.con (.bl false))] []])
    (w := .lst (rangeL 0 ((rs.map Rw.va).length : Int))) (all := rangeL 0 ((rs.map Rw.va).length : Int))
    (by
      rw [evE, ev_len (ev_var li.rows) rfl, R.bind_ok]
      have : big62? ((rs.map Rw.va).length : Int) = true := by unfold big62?; exact decide_eq_true (by rw [List.length_map]; omega)
      simp only [this, if_true])
    (fun _ => rfl) (fun k ρ s => LI vals (.lst (rs.map Rw.va)) ρ ∧ s.length = st.length ∧ (∀ m, m ≠ 0 → s[m]? = st[m]?) ∧ ∃ q, s[0]? = some (.dct (penD q)) ∧ POk q ∧ q.c = p.c + k)
    ⟨li, rfl, fun _ _ => rfl, p, h, ok, by simp⟩ (fun k x ρ s hx ⟨l, w1, w2, q, w3, w4, w5⟩ => by
      have hk : k < rs.length := by rw [← hrl]; exact (List.getElem?_eq_some_iff.mp hx).1
      obtain rfl : x = .int (k : Int) := by
        have : (rangeL 0 ((rs.map Rw.va).length : Int))[k]? = some (.int (k : Int)) := by
          unfold rangeL
          rw [List.getElem?_map, List.getElem?_range (by rw [List.length_map]; omega)]
          simp
        rw [this] at hx
        exact (Option.some.inj hx).symm
      have insK : InsK st s := fun n C fs e => by
        rw [w2 n (fun z => by subst z; rw [h] at e; cases e)]; exact e
      have hRs := hR.keep insK
      have l1 : LI vals (.lst (rs.map Rw.va)) (ρ.set 5 (some (.int (k : Int)))) := l.set (v := vals) (by decide)
      have k5 : (ρ.set 5 (some (.int (k : Int))))[5]? = some (some (.int (k : Int))) := List.getElem?_set_self (by rw [l.len]; decide)
      generalize hρ1 : ρ.set 5 (some (.int (k : Int))) = ρ1 at l1 k5
      obtain ⟨r, p', e, r0, r9, okp, cpp, _⟩ := draw_ok (G := g0) (N := 0) (fr := [] ++ [ρ1]) (many := ((rs.map Rw.va).length : Int) - 1) w3 w4 (by omega) (by rw [List.length_map]; omega) (by rw [List.length_map]; omega)
      rw [List.length_map] at r9
      obtain ⟨t1, t2, t3⟩ := turn_ne (n := (rs.length : Int)) (k := (k : Int)) (r := r) (by omega) (by omega) r0 (by omega)
      have elen : ∀ s', evE G [] (.bi .len [.var 3]) ρ1 s' = .ok (.int ((rs.map Rw.va).length : Int)) s' := fun s' => ev_len (ev_var l1.rows) rfl
      have ej := ev_mod (G := G) (fr := []) (ev_int (ev_add (ev_add (ev_var (st := s) k5) (ev_con (v := .int 1))) (ev_call (ev_es2 (ev_var l1.pen) (ev_sub (elen s) ev_con)) hD e))) (elen _) (by rw [List.length_map]; omega)
      rw [List.length_map] at ej
      generalize hj : ((k : Int) + 1 + r) % (rs.length : Int) = j at ej t1 t2 t3
      have hjl : j.toNat < rs.length := by omega
      have hjr := List.getElem?_eq_getElem hjl
      have hkr := List.getElem?_eq_getElem hk
      generalize rs[j.toNat] = y at hjr
      generalize rs[k] = z at hkr
      have ne : z.i ≠ y.i := rows_ne hRs hkr hjr (by omega)
      have s1 := ev_asg (G := G) (N := N) (fr := []) (i := 19) (ev_row l1.rows ej t2 hjr)
      have lS := get_set (o' := .dct (penD p')) w3
      generalize hs' : s.set 0 (.dct (penD p')) = s' at s1 lS
      have w2' : ∀ m, m ≠ 0 → s'[m]? = st[m]? := fun m hm => by rw [← hs', List.getElem?_set_ne (Ne.symm hm)]; exact w2 m hm
      have insK' : InsK st s' := fun n C fs e => by
        rw [w2' n (fun z => by subst z; rw [h] at e; cases e)]; exact e
      have hRs' := hR.keep insK'
      have l2 : LI vals (.lst (rs.map Rw.va)) (ρ1.set 19 (some (.ref y.i))) := l1.set (v := vals) (by decide)
      have k5' : (ρ1.set 19 (some (.ref y.i)))[5]? = some (some (.int (k : Int))) := by rw [List.getElem?_set_ne (by decide)]; exact k5
      have k19 : (ρ1.set 19 (some (.ref y.i)))[19]? = some (some (.ref y.i)) := List.getElem?_set_self (by rw [l1.len]; decide)
      generalize ρ1.set 19 (some (.ref y.i)) = ρ2 at s1 l2 k5' k19
      have ez : evE G [] (.idx (.idx (.var 3) (.var 5)) (.con (.int 0))) ρ2 s' = .ok (.ref z.i) s' := ev_row l2.rows (ev_var k5') (by omega) (by simpa using hkr)
      have e19 : evE G [] (.var 19) ρ2 s' = .ok (.ref y.i) s' := ev_var k19
      have oy := hRs'.ok y (List.mem_of_getElem? hjr)
      have oz := hRs'.ok z (List.mem_of_getElem? hkr)
      have iy : G.idn.contains y.C = true := by rw [hn]; exact oy.idn
      have iz : G.idn.contains z.C = true := by rw [hn]; exact oz.idn
      have c1 := ev_cmp (op := .eq) ez e19 (cmp_eqR oz.one oy.one iz iy)
      have c2 := ev_cmp (op := .eq) e19 ez (cmp_eqR oy.one oz.one iy iz)
      have c3 := ev_no (ev_cmp (op := .ne) ez e19 (cmp_neR oz.one oy.one iz iy))
      rw [decide_eq_false ne] at c1 c3
      rw [decide_eq_false (Ne.symm ne)] at c2
      exact ⟨ρ1, ρ2, s', by rw [← hρ1]; rfl, (ev_cons s1).trans ((ev_cons ((ev_ifF (ev_orF c1 (ev_orF c2 c3))).trans ev_nil)).trans ev_nil), l2, by rw [← hs', List.length_set]; exact w1, w2', p', lS, okp, by rw [cpp, w5]; omega⟩)
  exact ⟨ρ', st', e, p1, p2, p3, q, p4⟩
end M
end
section
set_option Elab.async false
set_option linter.all false
set_option maxRecDepth 10000
set_option maxHeartbeats 2000000
set_option autoImplicit false
/-! P12: the law's end. -/
namespace M
variable {g0 : Pg}
def law5 : List S := [.asg (.nm 6) (.call "Taken" [.idx (.var 2) (.con (.int 0))]),
  .asg (.nm 7) (.bi .repr [.attr (.var 6) "row"]),
  .ifs (.isin (.idx (.var 2) (.con (.int 0))) [.list]) [.expr (.mt .append (.idx (.var 2) (.con (.int 0))) [.con (.int 7)])] [],
  .ret (.and (.cmp .eq (.bi .repr [.attr (.var 6) "row"]) (.var 7)) (.cmp .eq (.bi .len [.var 3]) (.con (.int 66))))]
theorem len_szRs : ∀ l : List Va, l.length ≤ szRs l
  | [] => by simp
  | v :: l => by
    have := len_szRs l
    simp only [List.length_cons, szRs]
    omega
theorem ev_appendE {G : Pg} {N : Nat} {fr : Fr} {ρ : Sl} {st : Sto} {m : Nat} {a e : E} {v : Va} {xs : List Va} (ha : evE G fr a ρ st = .ok (.ref m) st) (hm : st[m]? = some (.lst xs)) (hs : small xs.length = true) (h : evE G fr e ρ st = .ok v st) :
    evS G N fr (.expr (.mt .append a [e])) ρ st = .ok .nx (ρ, st.set m (.lst (xs ++ [v]))) := by
  have hr : rd st (.ref m) = .lst xs := by simp only [rd, hm]
  rw [evS, evE, ha, R.bind_ok, hr]
  simp only [mtOk, if_true, ev_es1 h, R.bind_ok, mtop, appV, hr, hs, lift_ok]
theorem ev_isL {G : Pg} {fr : Fr} {ρ : Sl} {e : E} {v : Va} {st : Sto} (he : evE G fr e ρ st = .ok v st) (hg : good (rd st v) = true) : evE G fr (.isin e [.list]) ρ st = .ok (.bl (isL (rd st v))) st := by
  rw [evE, he, R.bind_ok]
  revert hg; generalize rd st v = y; intro hg
  cases y <;> first | rfl | cases hg
theorem good_cp {c : Va} (h : good c = true) : good (cp c) = true := by cases c <;> first | rfl | cases h
theorem law5_ok {G gi : Pg} {N : Nat} {rs : List Rw} {vals : List Va} {ρ : Sl} {st : Sto} (hT : G.fn.lookup "Taken" = some (mkr gi ("Taken", ["row"]))) (hc : gi.fn.lookup "copied" = some (copF g0)) (hf : hasF gi "Taken" "row" = true) (hf2 : hasF G "Taken" "row" = true) (li : LI (.lst vals) (.lst (rs.map Rw.va)) ρ) (hv : ∀ v ∈ vals, VOk st v) (h4 : vals.length = 4) (h66 : rs.length = 66) :
    ∃ ρ' st', evSs G N [] law5 ρ st = .ok (.ret (.bl true)) (ρ', st') := by
  obtain ⟨v, rest, rfl⟩ : ∃ v r, vals = v :: r := by
    match vals, h4 with
    | v :: r, _ => exact ⟨v, r, rfl⟩
  have vo := hv v (List.mem_cons_self ..)
  obtain ⟨vv, hL⟩ := vo.rd
  have ei : ∀ (ρ' : Sl) (s : Sto), ρ'[2]? = ρ[2]? → evE G [] (.idx (.var 2) (.con (.int 0))) ρ' s = .ok v s := fun ρ' s e => ev_idx (ev_var (e.trans li.vals)) ev_con (by simp only [rd, idxop]; rw [seqI_in (Int.le_refl 0) (by simp only [List.length_cons]; omega)]; rfl)
  have hlt : ∀ n, v = .ref n → n < st.length := fun n e => by
    rcases vo with ⟨q, _⟩ | ⟨m, xs, rfl, q, _⟩
    · subst e; cases q.1
    · cases e; exact (List.getElem?_eq_some_iff.mp q).1
  have s1 := ev_asg (G := G) (N := N) (fr := []) (i := 6) (ev_call (ev_es1 (ei ρ st rfl)) hT (made1_ok (G := gi) (N := 0) (fr := [] ++ [ρ]) (C := "Taken") (f := "row") hc rfl hlt vv.1 hL hf))
  have hro : rd (st ++ [Ob.ins "Taken" [("row", cp (rd st v))]]) v = rd st v := by
    cases v with
    | ref n => simp only [rd]; rw [List.getElem?_append_left (hlt n rfl)]
    | _ => rfl
  generalize hc0 : rd st v = c at s1 vv hL hro
  have hK : (st ++ [Ob.ins "Taken" [("row", cp c)]])[st.length]? = some (.ins "Taken" [("row", cp c)]) := by simp
  have hvo1 : isL c = true → ∃ m xs, v = .ref m ∧ m < st.length ∧ (st ++ [Ob.ins "Taken" [("row", cp c)]])[m]? = some (.lst xs) ∧ xs.length ≤ 8000 := fun z => by
    rcases vo with ⟨q, q2⟩ | ⟨m, xs, rfl, q, q2⟩
    · rw [rd_good q.1] at hc0; subst hc0; rw [q2] at z; cases z
    · have lm := (List.getElem?_eq_some_iff.mp q).1
      refine ⟨m, xs, rfl, lm, by rw [List.getElem?_append_left lm]; exact q, ?_⟩
      have z1 : szRs xs + 3 ≤ 8000 := q2.2.2.1
      have := len_szRs xs
      omega
  generalize st ++ [Ob.ins "Taken" [("row", cp c)]] = st1 at s1 hro hK hvo1
  have k6 : (ρ.set 6 (some (.ref st.length)))[6]? = some (some (.ref st.length)) := List.getElem?_set_self (by rw [li.len]; decide)
  have k2 : (ρ.set 6 (some (.ref st.length)))[2]? = ρ[2]? := List.getElem?_set_ne (by decide)
  have k3 : (ρ.set 6 (some (.ref st.length)))[3]? = ρ[3]? := List.getElem?_set_ne (by decide)
  have kL : (ρ.set 6 (some (.ref st.length))).length = 21 := by rw [List.length_set]; exact li.len
  generalize ρ.set 6 (some (.ref st.length)) = ρ1 at s1 k6 k2 k3 kL
  have eat : ∀ (ρ' : Sl) (s : Sto), ρ'[6]? = some (some (.ref st.length)) → s[st.length]? = some (.ins "Taken" [("row", cp c)]) → evE G [] (.attr (.var 6) "row") ρ' s = .ok (cp c) s := fun ρ' s e e2 => by
    rw [evE, ev_var e, R.bind_ok]
    simp only [rd, e2, hf2, if_true]
    rfl
  have hrep : ∀ s : Sto, reprV (rd s (cp c)) = some (.str (shown (cp c))) := fun s => by
    rw [rd_good (good_cp vv.1)]
    unfold reprV
    rw [show datR Dp (cp c) = true from vv.2.2.2, show small (szR (cp c)) = true from by unfold small; exact decide_eq_true (by have := vv.2.2.1; unfold Lm; omega)]
    rfl
  have s2 := ev_asg (G := G) (N := N) (fr := []) (i := 7) (ev_repr (eat ρ1 st1 k6 hK) (hrep st1))
  generalize shown (cp c) = T at hrep s2
  have j7 : (ρ1.set 7 (some (.str T)))[7]? = some (some (.str T)) := List.getElem?_set_self (by rw [kL]; decide)
  have j6 : (ρ1.set 7 (some (.str T)))[6]? = some (some (.ref st.length)) := by rw [List.getElem?_set_ne (by decide)]; exact k6
  have j2 : (ρ1.set 7 (some (.str T)))[2]? = ρ[2]? := by rw [List.getElem?_set_ne (by decide)]; exact k2
  have j3 : (ρ1.set 7 (some (.str T)))[3]? = some (some (.lst (rs.map Rw.va))) := by rw [List.getElem?_set_ne (by decide), k3]; exact li.rows
  generalize ρ1.set 7 (some (.str T)) = ρ2 at s2 j7 j6 j2 j3
  have fin : ∀ s : Sto, s[st.length]? = some (.ins "Taken" [("row", cp c)]) → evSs G N [] [.ret (.and (.cmp .eq (.bi .repr [.attr (.var 6) "row"]) (.var 7)) (.cmp .eq (.bi .len [.var 3]) (.con (.int 66))))] ρ2 s = .ok (.ret (.bl true)) (ρ2, s) := fun s hs => by
    have c1 := ev_cmp (G := G) (fr := []) (op := .eq) (ev_repr (eat ρ2 s j6 hs) (hrep s)) (ev_var j7) cmp_eqS
    have c2 := ev_cmp (G := G) (fr := []) (op := .eq) (ev_len (ev_var (st := s) j3) rfl) (ev_con (v := .int 66)) cmp_eqI
    rw [List.length_map, h66, show decide (((66 : Nat) : Int) = 66) = true from rfl] at c2
    exact ev_consR (ev_ret (ev_and c1 (fun _ => c2) (fun z => by cases z)))
  have eL : evE G [] (.isin (.idx (.var 2) (.con (.int 0))) [.list]) ρ2 st1 = .ok (.bl (isL c)) st1 := by
    have := ev_isL (ei ρ2 st1 j2) (by rw [hro]; exact vv.1)
    rw [hro] at this
    exact this
  cases z : isL c with
  | false =>
    rw [z] at eL
    exact ⟨ρ2, st1, (ev_cons s1).trans ((ev_cons s2).trans ((ev_cons ((ev_ifF eL).trans ev_nil)).trans (fin st1 hK)))⟩
  | true =>
    rw [z] at eL
    obtain ⟨m, xs, rfl, hm, hx, h8⟩ := hvo1 z
    have s3 := ev_appendE (G := G) (N := N) (fr := []) (ei ρ2 st1 j2) hx (by unfold small; exact decide_eq_true (by unfold Lm; omega)) (ev_con (v := .int 7))
    exact ⟨ρ2, st1.set m (.lst (xs ++ [.int 7])), (ev_cons s1).trans ((ev_cons s2).trans ((ev_cons ((ev_ifT eL).trans ((ev_cons s3).trans ev_nil))).trans (fin _ (by rw [List.getElem?_set_ne (by omega)]; exact hK))))⟩
def lawIR : List S := law1 ++ (law2 ++ (law3 :: law4 :: law5))
theorem law_ok {gp gv g1 gc gi G : Pg} {N : Nat} {names : List String} {Fb Fa1 Fb1 Fc1 Fd1 Fe1 : Fs} {n0 n1 n2 n3 n4 n5 : Nat} {ns : List Int}
    (hpen : G.fn.lookup "_law_pen" = some (penF gp)) (hval : G.fn.lookup "_law_value" = some (valueF gv)) (hD0 : gv.fn.lookup "_law_draw" = some (drawF g0)) (hP : gv.fn.lookup "_law_pick" = some (pickF g1)) (hD1 : g1.fn.lookup "_law_draw" = some (drawF g0))
    (hb : G.fn.lookup "_law_bare" = some Fb) (h1 : G.fn.lookup "_law_made_a" = some Fa1) (h2 : G.fn.lookup "_law_made_b" = some Fb1) (h3 : G.fn.lookup "_law_made_c" = some Fc1) (h4 : G.fn.lookup "_law_made_d" = some Fd1) (h5 : G.fn.lookup "_law_made_e" = some Fe1)
    (rb : RowsF names Fb [] n0) (made : ∀ vs : List Va, vs.length = 4 → (∀ v ∈ vs, VV v) → RowsF names Fa1 vs n1 ∧ RowsF names Fb1 vs n2 ∧ RowsF names Fc1 vs n3 ∧ RowsF names Fd1 vs n4 ∧ RowsF names Fe1 vs n5) (hn : n0 + n1 + n2 + n3 + n4 + n5 = 66)
    (hcopy : G.fn.lookup "_law_copy" = some (copF gc)) (hdraw : G.fn.lookup "_law_draw" = some (drawF g0)) (hidn : G.idn = names)
    (hT : G.fn.lookup "Taken" = some (mkr gi ("Taken", ["row"]))) (hc : gi.fn.lookup "copied" = some (copF g0)) (hf : hasF gi "Taken" "row" = true) (hf2 : hasF G "Taken" "row" = true) :
    ∃ st, runF G N false 21 1 lawIR [] [.lck (ns.map .int)] [] = .ok (.bl true) st := by
  obtain ⟨vals, a, b, c, d, p, s1, e1, hvl, hvo, hvv, hp, okp, hpc⟩ := law1_ok (g0 := g0) (G := G) (N := N) (ns := ns) hpen hval hD0 hP hD1
  obtain ⟨r1, r2, r3, r4, r5⟩ := made [a, b, c, d] rfl hvv
  obtain ⟨rs, w, s2, e2, hrl, hR, hle, hk⟩ := law2_ok (N := N) (s := .lck (ns.map .int)) (t := .ref 0) (vals := .lst vals) hb h1 h2 h3 h4 h5 rb r1 r2 r3 r4 r5 (by omega) s1
  rw [hn] at hrl
  have h0 : 0 < s1.length := (List.getElem?_eq_some_iff.mp hp).1
  have hp2 : s2[0]? = some (.dct (penD p)) := by rw [hk 0 h0]; exact hp
  have li : LI (.lst vals) (.lst (rs.map Rw.va)) (base (some (.lck (ns.map .int))) (some (.ref 0)) (some (.lst vals)) (some (.lst (rs.map Rw.va))) (some w) (some a) (some b) (some c) (some d)) := ⟨rfl, rfl, rfl, rfl⟩
  obtain ⟨ρ3, e3, li3⟩ := law3_ok (N := N) hcopy hidn hR li
  obtain ⟨ρ4, s4, e4, li4, l4, k4, _⟩ := law4_ok (N := N) hdraw hidn hR li3 hp2 okp (by omega) (by omega) (by omega)
  have hvo4 : ∀ v ∈ vals, VOk s4 v := fun v hv => ((hvo v hv).keep hp fun m hm _ => hk m hm).keep hp2 fun m _ hm => k4 m hm
  obtain ⟨ρ5, s5, e5⟩ := law5_ok (N := N) hT hc hf hf2 li4 hvo4 hvl hrl
  refine ⟨s5, ?_⟩
  unfold runF
  rw [if_pos (show [Va.lck (ns.map Va.int)].length = 1 from rfl)]
  have e : evSs G N [] lawIR ([Va.lck (ns.map Va.int)].map some ++ List.replicate (21 - 1) none) [] = .ok (.ret (.bl true)) (ρ5, s5) := by
    refine (e1 _).trans ((e2 _).trans ?_)
    rw [ev_cons e3, ev_cons e4, e5]
  rw [e]
  rfl
end M
end
section
set_option Elab.async false
set_option linter.all false
set_option maxRecDepth 10000
set_option maxHeartbeats 2000000
set_option autoImplicit false
/-! P13: the classes by the tables. -/
namespace M
variable {g0 : Pg}
theorem lookup_map {α β : Type} {key : α → String} {val : α → β} : ∀ {l : List α}, (l.map key).Nodup → ∀ {p : α}, p ∈ l → (l.map fun p => (key p, val p)).lookup (key p) = some (val p)
  | [], _, _, h => by simp at h
  | q :: r, nd, p, h => by
    rw [List.map_cons, List.nodup_cons] at nd
    rw [List.map_cons, List.lookup_cons]
    rcases List.mem_cons.mp h with rfl | h
    · simp
    · have : key p ≠ key q := fun z => nd.1 (by rw [← z]; exact List.mem_map.mpr ⟨p, h, rfl⟩)
      rw [show (key p == key q) = false from beq_eq_false_iff_ne.mpr this]
      exact lookup_map nd.2 h
def clsTb (t : Tabs) (l : List (String × List String)) : Bool := decide (l.map (·.1)).Nodup && l.all fun p => (p.2.all fun f => hasF (t.pg []) p.1 f) && decide p.2.Nodup && decide (p.2.length ≤ 4) && t.names.contains p.1
theorem kit_mem {t : Tabs} {fn : List (String × Fs)} {x : String} (h : t.names.contains x = true) : (t.pg fn).kit.contains (x, x) = true := by
  have h := List.contains_iff_mem.mp h
  exact List.contains_iff_mem.mpr (List.mem_map.mpr ⟨x, h, rfl⟩)
theorem clsP_all {t : Tabs} {f1 : List (String × Fs)} {l : List (String × List String)} (h : clsTb t l = true) : ∀ p ∈ l, ClsP (t.pg f1) (t.pg (l.map fun p => (p.1, mkr (t.pg f1) p))) t.names p := fun p hp => by
  unfold clsTb at h
  simp only [Bool.and_eq_true, List.all_eq_true, decide_eq_true_eq] at h
  obtain ⟨nd, h⟩ := h
  obtain ⟨⟨⟨h1, h2⟩, h3⟩, h4⟩ := h p hp
  exact ⟨lookup_map (key := fun p : String × List String => p.1) (val := fun p => mkr (t.pg f1) p) nd hp, h1, h1, h2, h3, kit_mem h4, h4⟩
theorem bareP_all {t : Tabs} {l : List String} (nd : l.Nodup) (h : (l.all fun x => t.names.contains x) = true) : ∀ p ∈ l, BareP (t.pg (l.map fun x => (x, mkE false x))) t.names p := fun p hp => by
  rw [List.all_eq_true] at h
  exact ⟨lookup_map (key := fun x : String => x) (val := fun x => mkE false x) (by simpa using nd) hp, kit_mem (h p hp), h p hp⟩
end M
end
section
set_option Elab.async false
set_option linter.all false
set_option maxRecDepth 100000
set_option maxHeartbeats 0
set_option autoImplicit false
namespace M.K90
open PySem PySem.Spec PyProof.Rows L2
/-! copied -/
def ir_copied : List S := [.ret (.ite (.isin (.var 0) [.list]) (.bi .tuple [.var 0]) (.var 0))]
def ck_copied : Ck := { N := ["value"], sc := defScope s_copied, fns := [], kfs := [], cls := [], free := ["isinstance", "list", "tuple"], gvs := [] }
theorem ok_copied : chkSs 100 ck_copied (defBody s_copied) ir_copied = true := by kernel_rfl
/-! _law_pen -/
def ir__law_pen : List S := [.asg (.nm 1) (.con (.int 0)),
  .fors [2] true (.var 0) [.asg (.nm 1) (.bin .mod (.bi .int [.bin .add (.bin .mul (.var 1) (.con (.int 137))) (.var 2)]) (.con (.int 999999503)))],
  .ret (.dct true [.str [99, 101, 108, 108, 115], .str [97, 116], .str [100, 105, 103, 105, 116, 115], .str [99, 111, 117, 110, 116], .str [102, 111, 108, 100]] [.bi .list [.var 0], .con (.int 0), .con (.int 0), .con (.int 0), .var 1])]
def ck__law_pen : Ck := { N := ["script", "fold", "cell"], sc := defScope s__law_pen, fns := [], kfs := [], cls := [], free := ["int", "list"], gvs := [] }
theorem ok__law_pen : chkSs 100 ck__law_pen (defBody s__law_pen) ir__law_pen = true := by kernel_rfl
/-! _law_draw -/
def ir__law_draw : List S := [.asg (.ix (.var 0) (.con (.str [99, 111, 117, 110, 116]))) (.bin .add (.idx (.var 0) (.con (.str [99, 111, 117, 110, 116]))) (.con (.int 1))),
  .ifs (.and (.cmp .eq (.idx (.var 0) (.con (.str [100, 105, 103, 105, 116, 115]))) (.con (.int 0))) (.cmp .lt (.idx (.var 0) (.con (.str [97, 116]))) (.bi .len [.idx (.var 0) (.con (.str [99, 101, 108, 108, 115]))]))) [.asg (.nm 3) (.idx (.idx (.var 0) (.con (.str [99, 101, 108, 108, 115]))) (.idx (.var 0) (.con (.str [97, 116])))), .asg (.ix (.var 0) (.con (.str [97, 116]))) (.bin .add (.idx (.var 0) (.con (.str [97, 116]))) (.con (.int 1))), .ifs (.cmp .ge (.var 3) (.bin .pow (.con (.int 10)) (.con (.int 18)))) [.asg (.ix (.var 0) (.con (.str [100, 105, 103, 105, 116, 115]))) (.bin .sub (.var 3) (.bin .pow (.con (.int 10)) (.con (.int 18))))] [.asg (.ix (.var 0) (.con (.str [102, 111, 108, 100]))) (.bin .mod (.bi .int [.bin .add (.bin .mul (.idx (.var 0) (.con (.str [102, 111, 108, 100]))) (.con (.int 31721))) (.var 3)]) (.con (.int 2147483237)))]] [],
  .ifs (.cmp .gt (.idx (.var 0) (.con (.str [100, 105, 103, 105, 116, 115]))) (.con (.int 0))) [.asg (.nm 4) (.bin .mod (.bi .int [.idx (.var 0) (.con (.str [100, 105, 103, 105, 116, 115]))]) (.var 1)), .asg (.ix (.var 0) (.con (.str [100, 105, 103, 105, 116, 115]))) (.bin .fdiv (.idx (.var 0) (.con (.str [100, 105, 103, 105, 116, 115]))) (.var 1)), .ret (.var 4)] [],
  .asg (.nm 2) (.bin .add (.bin .add (.idx (.var 0) (.con (.str [102, 111, 108, 100]))) (.bin .mul (.idx (.var 0) (.con (.str [99, 111, 117, 110, 116]))) (.con (.int 6947)))) (.con (.int 127))),
  .ret (.bin .mod (.bin .fdiv (.bi .int [.bin .mod (.bin .pow (.var 2) (.con (.int 43))) (.con (.int 2305843009213693951))]) (.con (.int 1024))) (.var 1))]
def ck__law_draw : Ck := { N := ["pen", "many", "blend", "cell", "digit"], sc := defScope s__law_draw, fns := [], kfs := [], cls := [], free := ["len", "int"], gvs := [] }
theorem ok__law_draw : chkSs 100 ck__law_draw (defBody s__law_draw) ir__law_draw = true := by kernel_rfl
/-! _law_pick -/
def ir__law_pick : List S := [.ret (.idx (.var 1) (.call "_law_draw" [.var 0, .bi .len [.var 1]]))]
def ck__law_pick : Ck := { N := ["pen", "some"], sc := defScope s__law_pick, fns := ["_law_draw"], kfs := [], cls := [], free := ["len"], gvs := [] }
theorem ok__law_pick : chkSs 100 ck__law_pick (defBody s__law_pick) ir__law_pick = true := by kernel_rfl
/-! _law_made_a -/
def ir__law_made_a : List S := [.asg (.nm 4) (.lst true []),
  .asg (.tp [.nm 5, .nm 6]) (.tup [.call "Way" [.var 0], .call "Way" [.var 0]]),
  .asg (.tp [.nm 7, .nm 8]) (.tup [.and (.isin (.var 5) [.own "Way"]) (.isin (.var 6) [.own "Way"]), .lst false [.attr (.var 5) "row"]]),
  .expr (.mt .append (.var 4) [.tup [.var 5, .var 6, .var 7, .var 8, .lst false [.attr (.var 6) "row"], .lst false [.var 0]]]),
  .asg (.tp [.nm 5, .nm 6]) (.tup [.call "Unheld" [.var 0], .call "Unheld" [.var 0]]),
  .asg (.tp [.nm 7, .nm 8]) (.tup [.and (.isin (.var 5) [.own "Unheld"]) (.isin (.var 6) [.own "Unheld"]), .lst false [.attr (.var 5) "filling"]]),
  .expr (.mt .append (.var 4) [.tup [.var 5, .var 6, .var 7, .var 8, .lst false [.attr (.var 6) "filling"], .lst false [.var 0]]]),
  .asg (.tp [.nm 5, .nm 6]) (.tup [.call "Breaks" [.var 0, .var 1, .var 2, .var 3], .call "Breaks" [.var 0, .var 1, .var 2, .var 3]]),
  .asg (.tp [.nm 7, .nm 8]) (.tup [.and (.isin (.var 5) [.own "Breaks"]) (.isin (.var 6) [.own "Breaks"]), .lst false [.attr (.var 5) "one", .attr (.var 5) "other", .attr (.var 5) "given", .attr (.var 5) "filling"]]),
  .expr (.mt .append (.var 4) [.tup [.var 5, .var 6, .var 7, .var 8, .lst false [.attr (.var 6) "one", .attr (.var 6) "other", .attr (.var 6) "given", .attr (.var 6) "filling"], .lst false [.var 0, .var 1, .var 2, .var 3]]]),
  .asg (.tp [.nm 5, .nm 6]) (.tup [.call "FreeLot" [.var 0, .var 1], .call "FreeLot" [.var 0, .var 1]]),
  .asg (.tp [.nm 7, .nm 8]) (.tup [.and (.isin (.var 5) [.own "FreeLot"]) (.isin (.var 6) [.own "FreeLot"]), .lst false [.attr (.var 5) "lot", .attr (.var 5) "covers"]]),
  .expr (.mt .append (.var 4) [.tup [.var 5, .var 6, .var 7, .var 8, .lst false [.attr (.var 6) "lot", .attr (.var 6) "covers"], .lst false [.var 0, .var 1]]]),
  .asg (.tp [.nm 5, .nm 6]) (.tup [.call "TiedCover" [.var 0, .var 1], .call "TiedCover" [.var 0, .var 1]]),
  .asg (.tp [.nm 7, .nm 8]) (.tup [.and (.isin (.var 5) [.own "TiedCover"]) (.isin (.var 6) [.own "TiedCover"]), .lst false [.attr (.var 5) "lots", .attr (.var 5) "lot"]]),
  .expr (.mt .append (.var 4) [.tup [.var 5, .var 6, .var 7, .var 8, .lst false [.attr (.var 6) "lots", .attr (.var 6) "lot"], .lst false [.var 0, .var 1]]]),
  .asg (.tp [.nm 5, .nm 6]) (.tup [.call "BagSum" [.var 0], .call "BagSum" [.var 0]]),
  .asg (.tp [.nm 7, .nm 8]) (.tup [.and (.isin (.var 5) [.own "BagSum"]) (.isin (.var 6) [.own "BagSum"]), .lst false [.attr (.var 5) "tables"]]),
  .expr (.mt .append (.var 4) [.tup [.var 5, .var 6, .var 7, .var 8, .lst false [.attr (.var 6) "tables"], .lst false [.var 0]]]),
  .asg (.tp [.nm 5, .nm 6]) (.tup [.call "LowAt" [.var 0], .call "LowAt" [.var 0]]),
  .asg (.tp [.nm 7, .nm 8]) (.tup [.and (.isin (.var 5) [.own "LowAt"]) (.isin (.var 6) [.own "LowAt"]), .lst false [.attr (.var 5) "row"]]),
  .expr (.mt .append (.var 4) [.tup [.var 5, .var 6, .var 7, .var 8, .lst false [.attr (.var 6) "row"], .lst false [.var 0]]]),
  .asg (.tp [.nm 5, .nm 6]) (.tup [.call "SumBar" [.var 0], .call "SumBar" [.var 0]]),
  .asg (.tp [.nm 7, .nm 8]) (.tup [.and (.isin (.var 5) [.own "SumBar"]) (.isin (.var 6) [.own "SumBar"]), .lst false [.attr (.var 5) "other"]]),
  .expr (.mt .append (.var 4) [.tup [.var 5, .var 6, .var 7, .var 8, .lst false [.attr (.var 6) "other"], .lst false [.var 0]]]),
  .asg (.tp [.nm 5, .nm 6]) (.tup [.call "Squares" [.var 0], .call "Squares" [.var 0]]),
  .asg (.tp [.nm 7, .nm 8]) (.tup [.and (.isin (.var 5) [.own "Squares"]) (.isin (.var 6) [.own "Squares"]), .lst false [.attr (.var 5) "rows"]]),
  .expr (.mt .append (.var 4) [.tup [.var 5, .var 6, .var 7, .var 8, .lst false [.attr (.var 6) "rows"], .lst false [.var 0]]]),
  .asg (.tp [.nm 5, .nm 6]) (.tup [.call "SumLost" [.var 0, .var 1], .call "SumLost" [.var 0, .var 1]]),
  .asg (.tp [.nm 7, .nm 8]) (.tup [.and (.isin (.var 5) [.own "SumLost"]) (.isin (.var 6) [.own "SumLost"]), .lst false [.attr (.var 5) "table", .attr (.var 5) "other"]]),
  .expr (.mt .append (.var 4) [.tup [.var 5, .var 6, .var 7, .var 8, .lst false [.attr (.var 6) "table", .attr (.var 6) "other"], .lst false [.var 0, .var 1]]]),
  .asg (.tp [.nm 5, .nm 6]) (.tup [.call "CornerLow" [.var 0, .var 1], .call "CornerLow" [.var 0, .var 1]]),
  .asg (.tp [.nm 7, .nm 8]) (.tup [.and (.isin (.var 5) [.own "CornerLow"]) (.isin (.var 6) [.own "CornerLow"]), .lst false [.attr (.var 5) "lot", .attr (.var 5) "row"]]),
  .expr (.mt .append (.var 4) [.tup [.var 5, .var 6, .var 7, .var 8, .lst false [.attr (.var 6) "lot", .attr (.var 6) "row"], .lst false [.var 0, .var 1]]]),
  .ret (.var 4)]
def ck__law_made_a : Ck := { N := ["a", "b", "c", "d", "rows", "one", "two", "kind", "first"], sc := defScope s__law_made_a, fns := ["Way", "Unheld", "Breaks", "FreeLot", "TiedCover", "BagSum", "LowAt", "SumBar", "Squares", "SumLost", "CornerLow"], kfs := [("Way", ["row"]), ("Unheld", ["filling"]), ("Breaks", ["filling", "given", "other", "one"]), ("FreeLot", ["covers", "lot"]), ("TiedCover", ["lot", "lots"]), ("BagSum", ["tables"]), ("LowAt", ["row"]), ("SumBar", ["other"]), ("Squares", ["rows"]), ("SumLost", ["other", "table"]), ("CornerLow", ["row", "lot"])], cls := ["Way", "Unheld", "Breaks", "FreeLot", "TiedCover", "BagSum", "LowAt", "SumBar", "Squares", "SumLost", "CornerLow"], free := ["isinstance"], gvs := [] }
theorem ok__law_made_a : chkSs 100 ck__law_made_a (defBody s__law_made_a) ir__law_made_a = true := by kernel_rfl
/-! _law_made_b -/
def ir__law_made_b : List S := [.asg (.nm 4) (.lst true []),
  .asg (.tp [.nm 5, .nm 6]) (.tup [.call "Disagree" [.var 0, .var 1, .var 2], .call "Disagree" [.var 0, .var 1, .var 2]]),
  .asg (.tp [.nm 7, .nm 8]) (.tup [.and (.isin (.var 5) [.own "Disagree"]) (.isin (.var 6) [.own "Disagree"]), .lst false [.attr (.var 5) "first", .attr (.var 5) "second", .attr (.var 5) "filling"]]),
  .expr (.mt .append (.var 4) [.tup [.var 5, .var 6, .var 7, .var 8, .lst false [.attr (.var 6) "first", .attr (.var 6) "second", .attr (.var 6) "filling"], .lst false [.var 0, .var 1, .var 2]]]),
  .asg (.tp [.nm 5, .nm 6]) (.tup [.call "Whole" [.var 0], .call "Whole" [.var 0]]),
  .asg (.tp [.nm 7, .nm 8]) (.tup [.and (.isin (.var 5) [.own "Whole"]) (.isin (.var 6) [.own "Whole"]), .lst false [.attr (.var 5) "row"]]),
  .expr (.mt .append (.var 4) [.tup [.var 5, .var 6, .var 7, .var 8, .lst false [.attr (.var 6) "row"], .lst false [.var 0]]]),
  .asg (.tp [.nm 5, .nm 6]) (.tup [.call "CountBar" [.var 0], .call "CountBar" [.var 0]]),
  .asg (.tp [.nm 7, .nm 8]) (.tup [.and (.isin (.var 5) [.own "CountBar"]) (.isin (.var 6) [.own "CountBar"]), .lst false [.attr (.var 5) "weights"]]),
  .expr (.mt .append (.var 4) [.tup [.var 5, .var 6, .var 7, .var 8, .lst false [.attr (.var 6) "weights"], .lst false [.var 0]]]),
  .asg (.tp [.nm 5, .nm 6]) (.tup [.call "CountsLost" [.var 0, .var 1, .var 2], .call "CountsLost" [.var 0, .var 1, .var 2]]),
  .asg (.tp [.nm 7, .nm 8]) (.tup [.and (.isin (.var 5) [.own "CountsLost"]) (.isin (.var 6) [.own "CountsLost"]), .lst false [.attr (.var 5) "letters", .attr (.var 5) "counts", .attr (.var 5) "weights"]]),
  .expr (.mt .append (.var 4) [.tup [.var 5, .var 6, .var 7, .var 8, .lst false [.attr (.var 6) "letters", .attr (.var 6) "counts", .attr (.var 6) "weights"], .lst false [.var 0, .var 1, .var 2]]]),
  .asg (.tp [.nm 5, .nm 6]) (.tup [.call "Cover" [.var 0, .var 1], .call "Cover" [.var 0, .var 1]]),
  .asg (.tp [.nm 7, .nm 8]) (.tup [.and (.isin (.var 5) [.own "Cover"]) (.isin (.var 6) [.own "Cover"]), .lst false [.attr (.var 5) "lot", .attr (.var 5) "amounts"]]),
  .expr (.mt .append (.var 4) [.tup [.var 5, .var 6, .var 7, .var 8, .lst false [.attr (.var 6) "lot", .attr (.var 6) "amounts"], .lst false [.var 0, .var 1]]]),
  .asg (.tp [.nm 5, .nm 6]) (.tup [.call "CoverGap" [.var 0, .var 1], .call "CoverGap" [.var 0, .var 1]]),
  .asg (.tp [.nm 7, .nm 8]) (.tup [.and (.isin (.var 5) [.own "CoverGap"]) (.isin (.var 6) [.own "CoverGap"]), .lst false [.attr (.var 5) "shares", .attr (.var 5) "amounts"]]),
  .expr (.mt .append (.var 4) [.tup [.var 5, .var 6, .var 7, .var 8, .lst false [.attr (.var 6) "shares", .attr (.var 6) "amounts"], .lst false [.var 0, .var 1]]]),
  .asg (.tp [.nm 5, .nm 6]) (.tup [.call "BagFactors" [.var 0], .call "BagFactors" [.var 0]]),
  .asg (.tp [.nm 7, .nm 8]) (.tup [.and (.isin (.var 5) [.own "BagFactors"]) (.isin (.var 6) [.own "BagFactors"]), .lst false [.attr (.var 5) "tables"]]),
  .expr (.mt .append (.var 4) [.tup [.var 5, .var 6, .var 7, .var 8, .lst false [.attr (.var 6) "tables"], .lst false [.var 0]]]),
  .asg (.tp [.nm 5, .nm 6]) (.tup [.call "NoFactors" [.var 0, .var 1, .var 2], .call "NoFactors" [.var 0, .var 1, .var 2]]),
  .asg (.tp [.nm 7, .nm 8]) (.tup [.and (.isin (.var 5) [.own "NoFactors"]) (.isin (.var 6) [.own "NoFactors"]), .lst false [.attr (.var 5) "i", .attr (.var 5) "j", .attr (.var 5) "filling"]]),
  .expr (.mt .append (.var 4) [.tup [.var 5, .var 6, .var 7, .var 8, .lst false [.attr (.var 6) "i", .attr (.var 6) "j", .attr (.var 6) "filling"], .lst false [.var 0, .var 1, .var 2]]]),
  .asg (.tp [.nm 5, .nm 6]) (.tup [.call "FillLost" [.var 0, .var 1], .call "FillLost" [.var 0, .var 1]]),
  .asg (.tp [.nm 7, .nm 8]) (.tup [.and (.isin (.var 5) [.own "FillLost"]) (.isin (.var 6) [.own "FillLost"]), .lst false [.attr (.var 5) "told", .attr (.var 5) "bar"]]),
  .expr (.mt .append (.var 4) [.tup [.var 5, .var 6, .var 7, .var 8, .lst false [.attr (.var 6) "told", .attr (.var 6) "bar"], .lst false [.var 0, .var 1]]]),
  .asg (.tp [.nm 5, .nm 6]) (.tup [.call "Folds" [.var 0], .call "Folds" [.var 0]]),
  .asg (.tp [.nm 7, .nm 8]) (.tup [.and (.isin (.var 5) [.own "Folds"]) (.isin (.var 6) [.own "Folds"]), .lst false [.attr (.var 5) "steps"]]),
  .expr (.mt .append (.var 4) [.tup [.var 5, .var 6, .var 7, .var 8, .lst false [.attr (.var 6) "steps"], .lst false [.var 0]]]),
  .asg (.tp [.nm 5, .nm 6]) (.tup [.call "Knot" [.var 0, .var 1], .call "Knot" [.var 0, .var 1]]),
  .asg (.tp [.nm 7, .nm 8]) (.tup [.and (.isin (.var 5) [.own "Knot"]) (.isin (.var 6) [.own "Knot"]), .lst false [.attr (.var 5) "kind", .attr (.var 5) "row"]]),
  .expr (.mt .append (.var 4) [.tup [.var 5, .var 6, .var 7, .var 8, .lst false [.attr (.var 6) "kind", .attr (.var 6) "row"], .lst false [.var 0, .var 1]]]),
  .ret (.var 4)]
def ck__law_made_b : Ck := { N := ["a", "b", "c", "d", "rows", "one", "two", "kind", "first"], sc := defScope s__law_made_b, fns := ["Disagree", "Whole", "CountBar", "CountsLost", "Cover", "CoverGap", "BagFactors", "NoFactors", "FillLost", "Folds", "Knot"], kfs := [("Disagree", ["filling", "second", "first"]), ("Whole", ["row"]), ("CountBar", ["weights"]), ("CountsLost", ["weights", "counts", "letters"]), ("Cover", ["amounts", "lot"]), ("CoverGap", ["amounts", "shares"]), ("BagFactors", ["tables"]), ("NoFactors", ["filling", "j", "i"]), ("FillLost", ["bar", "told"]), ("Folds", ["steps"]), ("Knot", ["row", "kind"])], cls := ["Disagree", "Whole", "CountBar", "CountsLost", "Cover", "CoverGap", "BagFactors", "NoFactors", "FillLost", "Folds", "Knot"], free := ["isinstance"], gvs := [] }
theorem ok__law_made_b : chkSs 100 ck__law_made_b (defBody s__law_made_b) ir__law_made_b = true := by kernel_rfl
/-! _law_made_c -/
def ir__law_made_c : List S := [.asg (.nm 4) (.lst true []),
  .asg (.tp [.nm 5, .nm 6]) (.tup [.call "Signed" [.var 0], .call "Signed" [.var 0]]),
  .asg (.tp [.nm 7, .nm 8]) (.tup [.and (.isin (.var 5) [.own "Signed"]) (.isin (.var 6) [.own "Signed"]), .lst false [.attr (.var 5) "rows"]]),
  .expr (.mt .append (.var 4) [.tup [.var 5, .var 6, .var 7, .var 8, .lst false [.attr (.var 6) "rows"], .lst false [.var 0]]]),
  .asg (.tp [.nm 5, .nm 6]) (.tup [.call "Hued" [.var 0, .var 1], .call "Hued" [.var 0, .var 1]]),
  .asg (.tp [.nm 7, .nm 8]) (.tup [.and (.isin (.var 5) [.own "Hued"]) (.isin (.var 6) [.own "Hued"]), .lst false [.attr (.var 5) "row", .attr (.var 5) "lot"]]),
  .expr (.mt .append (.var 4) [.tup [.var 5, .var 6, .var 7, .var 8, .lst false [.attr (.var 6) "row", .attr (.var 6) "lot"], .lst false [.var 0, .var 1]]]),
  .asg (.tp [.nm 5, .nm 6]) (.tup [.call "UnlikeTwo" [.var 0, .var 1, .var 2], .call "UnlikeTwo" [.var 0, .var 1, .var 2]]),
  .asg (.tp [.nm 7, .nm 8]) (.tup [.and (.isin (.var 5) [.own "UnlikeTwo"]) (.isin (.var 6) [.own "UnlikeTwo"]), .lst false [.attr (.var 5) "one", .attr (.var 5) "other", .attr (.var 5) "row"]]),
  .expr (.mt .append (.var 4) [.tup [.var 5, .var 6, .var 7, .var 8, .lst false [.attr (.var 6) "one", .attr (.var 6) "other", .attr (.var 6) "row"], .lst false [.var 0, .var 1, .var 2]]]),
  .asg (.tp [.nm 5, .nm 6]) (.tup [.call "Hanging" [.var 0, .var 1], .call "Hanging" [.var 0, .var 1]]),
  .asg (.tp [.nm 7, .nm 8]) (.tup [.and (.isin (.var 5) [.own "Hanging"]) (.isin (.var 6) [.own "Hanging"]), .lst false [.attr (.var 5) "one", .attr (.var 5) "row"]]),
  .expr (.mt .append (.var 4) [.tup [.var 5, .var 6, .var 7, .var 8, .lst false [.attr (.var 6) "one", .attr (.var 6) "row"], .lst false [.var 0, .var 1]]]),
  .asg (.tp [.nm 5, .nm 6]) (.tup [.call "RingTables" [.var 0, .var 1, .var 2], .call "RingTables" [.var 0, .var 1, .var 2]]),
  .asg (.tp [.nm 7, .nm 8]) (.tup [.and (.isin (.var 5) [.own "RingTables"]) (.isin (.var 6) [.own "RingTables"]), .lst false [.attr (.var 5) "told", .attr (.var 5) "bars", .attr (.var 5) "steps"]]),
  .expr (.mt .append (.var 4) [.tup [.var 5, .var 6, .var 7, .var 8, .lst false [.attr (.var 6) "told", .attr (.var 6) "bars", .attr (.var 6) "steps"], .lst false [.var 0, .var 1, .var 2]]]),
  .asg (.tp [.nm 5, .nm 6]) (.tup [.call "NewNumber" [.var 0, .var 1, .var 2], .call "NewNumber" [.var 0, .var 1, .var 2]]),
  .asg (.tp [.nm 7, .nm 8]) (.tup [.and (.isin (.var 5) [.own "NewNumber"]) (.isin (.var 6) [.own "NewNumber"]), .lst false [.attr (.var 5) "i", .attr (.var 5) "j", .attr (.var 5) "number"]]),
  .expr (.mt .append (.var 4) [.tup [.var 5, .var 6, .var 7, .var 8, .lst false [.attr (.var 6) "i", .attr (.var 6) "j", .attr (.var 6) "number"], .lst false [.var 0, .var 1, .var 2]]]),
  .asg (.tp [.nm 5, .nm 6]) (.tup [.call "RingCounts" [.var 0, .var 1, .var 2], .call "RingCounts" [.var 0, .var 1, .var 2]]),
  .asg (.tp [.nm 7, .nm 8]) (.tup [.and (.isin (.var 5) [.own "RingCounts"]) (.isin (.var 6) [.own "RingCounts"]), .lst false [.attr (.var 5) "letters", .attr (.var 5) "counts", .attr (.var 5) "weights"]]),
  .expr (.mt .append (.var 4) [.tup [.var 5, .var 6, .var 7, .var 8, .lst false [.attr (.var 6) "letters", .attr (.var 6) "counts", .attr (.var 6) "weights"], .lst false [.var 0, .var 1, .var 2]]]),
  .asg (.tp [.nm 5, .nm 6]) (.tup [.call "PartBreak" [.var 0, .var 1, .var 2], .call "PartBreak" [.var 0, .var 1, .var 2]]),
  .asg (.tp [.nm 7, .nm 8]) (.tup [.and (.isin (.var 5) [.own "PartBreak"]) (.isin (.var 6) [.own "PartBreak"]), .lst false [.attr (.var 5) "lot", .attr (.var 5) "i", .attr (.var 5) "j"]]),
  .expr (.mt .append (.var 4) [.tup [.var 5, .var 6, .var 7, .var 8, .lst false [.attr (.var 6) "lot", .attr (.var 6) "i", .attr (.var 6) "j"], .lst false [.var 0, .var 1, .var 2]]]),
  .asg (.tp [.nm 5, .nm 6]) (.tup [.call "PartingLoose" [.var 0, .var 1, .var 2], .call "PartingLoose" [.var 0, .var 1, .var 2]]),
  .asg (.tp [.nm 7, .nm 8]) (.tup [.and (.isin (.var 5) [.own "PartingLoose"]) (.isin (.var 6) [.own "PartingLoose"]), .lst false [.attr (.var 5) "i", .attr (.var 5) "j", .attr (.var 5) "lot"]]),
  .expr (.mt .append (.var 4) [.tup [.var 5, .var 6, .var 7, .var 8, .lst false [.attr (.var 6) "i", .attr (.var 6) "j", .attr (.var 6) "lot"], .lst false [.var 0, .var 1, .var 2]]]),
  .asg (.tp [.nm 5, .nm 6]) (.tup [.call "BagRow" [.var 0], .call "BagRow" [.var 0]]),
  .asg (.tp [.nm 7, .nm 8]) (.tup [.and (.isin (.var 5) [.own "BagRow"]) (.isin (.var 6) [.own "BagRow"]), .lst false [.attr (.var 5) "bags"]]),
  .expr (.mt .append (.var 4) [.tup [.var 5, .var 6, .var 7, .var 8, .lst false [.attr (.var 6) "bags"], .lst false [.var 0]]]),
  .asg (.tp [.nm 5, .nm 6]) (.tup [.call "FarThree" [.var 0, .var 1], .call "FarThree" [.var 0, .var 1]]),
  .asg (.tp [.nm 7, .nm 8]) (.tup [.and (.isin (.var 5) [.own "FarThree"]) (.isin (.var 6) [.own "FarThree"]), .lst false [.attr (.var 5) "places", .attr (.var 5) "ways"]]),
  .expr (.mt .append (.var 4) [.tup [.var 5, .var 6, .var 7, .var 8, .lst false [.attr (.var 6) "places", .attr (.var 6) "ways"], .lst false [.var 0, .var 1]]]),
  .ret (.var 4)]
def ck__law_made_c : Ck := { N := ["a", "b", "c", "d", "rows", "one", "two", "kind", "first"], sc := defScope s__law_made_c, fns := ["Signed", "Hued", "UnlikeTwo", "Hanging", "RingTables", "NewNumber", "RingCounts", "PartBreak", "PartingLoose", "BagRow", "FarThree"], kfs := [("Signed", ["rows"]), ("Hued", ["lot", "row"]), ("UnlikeTwo", ["row", "other", "one"]), ("Hanging", ["row", "one"]), ("RingTables", ["steps", "bars", "told"]), ("NewNumber", ["number", "j", "i"]), ("RingCounts", ["weights", "counts", "letters"]), ("PartBreak", ["j", "i", "lot"]), ("PartingLoose", ["lot", "j", "i"]), ("BagRow", ["bags"]), ("FarThree", ["ways", "places"])], cls := ["Signed", "Hued", "UnlikeTwo", "Hanging", "RingTables", "NewNumber", "RingCounts", "PartBreak", "PartingLoose", "BagRow", "FarThree"], free := ["isinstance"], gvs := [] }
theorem ok__law_made_c : chkSs 100 ck__law_made_c (defBody s__law_made_c) ir__law_made_c = true := by kernel_rfl
/-! _law_made_d -/
def ir__law_made_d : List S := [.asg (.nm 4) (.lst true []),
  .asg (.tp [.nm 5, .nm 6]) (.tup [.call "Stretches" [.var 0], .call "Stretches" [.var 0]]),
  .asg (.tp [.nm 7, .nm 8]) (.tup [.and (.isin (.var 5) [.own "Stretches"]) (.isin (.var 6) [.own "Stretches"]), .lst false [.attr (.var 5) "rows"]]),
  .expr (.mt .append (.var 4) [.tup [.var 5, .var 6, .var 7, .var 8, .lst false [.attr (.var 6) "rows"], .lst false [.var 0]]]),
  .asg (.tp [.nm 5, .nm 6]) (.tup [.call "OddHole" [.var 0], .call "OddHole" [.var 0]]),
  .asg (.tp [.nm 7, .nm 8]) (.tup [.and (.isin (.var 5) [.own "OddHole"]) (.isin (.var 6) [.own "OddHole"]), .lst false [.attr (.var 5) "row"]]),
  .expr (.mt .append (.var 4) [.tup [.var 5, .var 6, .var 7, .var 8, .lst false [.attr (.var 6) "row"], .lst false [.var 0]]]),
  .asg (.tp [.nm 5, .nm 6]) (.tup [.call "OddAntihole" [.var 0], .call "OddAntihole" [.var 0]]),
  .asg (.tp [.nm 7, .nm 8]) (.tup [.and (.isin (.var 5) [.own "OddAntihole"]) (.isin (.var 6) [.own "OddAntihole"]), .lst false [.attr (.var 5) "row"]]),
  .expr (.mt .append (.var 4) [.tup [.var 5, .var 6, .var 7, .var 8, .lst false [.attr (.var 6) "row"], .lst false [.var 0]]]),
  .asg (.tp [.nm 5, .nm 6]) (.tup [.call "Factors" [.var 0, .var 1], .call "Factors" [.var 0, .var 1]]),
  .asg (.tp [.nm 7, .nm 8]) (.tup [.and (.isin (.var 5) [.own "Factors"]) (.isin (.var 6) [.own "Factors"]), .lst false [.attr (.var 5) "lower", .attr (.var 5) "turns"]]),
  .expr (.mt .append (.var 4) [.tup [.var 5, .var 6, .var 7, .var 8, .lst false [.attr (.var 6) "lower", .attr (.var 6) "turns"], .lst false [.var 0, .var 1]]]),
  .asg (.tp [.nm 5, .nm 6]) (.tup [.call "NotAbove" [.var 0], .call "NotAbove" [.var 0]]),
  .asg (.tp [.nm 7, .nm 8]) (.tup [.and (.isin (.var 5) [.own "NotAbove"]) (.isin (.var 6) [.own "NotAbove"]), .lst false [.attr (.var 5) "row"]]),
  .expr (.mt .append (.var 4) [.tup [.var 5, .var 6, .var 7, .var 8, .lst false [.attr (.var 6) "row"], .lst false [.var 0]]]),
  .asg (.tp [.nm 5, .nm 6]) (.tup [.call "SolvedEver" [.var 0], .call "SolvedEver" [.var 0]]),
  .asg (.tp [.nm 7, .nm 8]) (.tup [.and (.isin (.var 5) [.own "SolvedEver"]) (.isin (.var 6) [.own "SolvedEver"]), .lst false [.attr (.var 5) "row"]]),
  .expr (.mt .append (.var 4) [.tup [.var 5, .var 6, .var 7, .var 8, .lst false [.attr (.var 6) "row"], .lst false [.var 0]]]),
  .asg (.tp [.nm 5, .nm 6]) (.tup [.call "NewEver" [.var 0], .call "NewEver" [.var 0]]),
  .asg (.tp [.nm 7, .nm 8]) (.tup [.and (.isin (.var 5) [.own "NewEver"]) (.isin (.var 6) [.own "NewEver"]), .lst false [.attr (.var 5) "table"]]),
  .expr (.mt .append (.var 4) [.tup [.var 5, .var 6, .var 7, .var 8, .lst false [.attr (.var 6) "table"], .lst false [.var 0]]]),
  .asg (.tp [.nm 5, .nm 6]) (.tup [.call "LeastNew" [.var 0], .call "LeastNew" [.var 0]]),
  .asg (.tp [.nm 7, .nm 8]) (.tup [.and (.isin (.var 5) [.own "LeastNew"]) (.isin (.var 6) [.own "LeastNew"]), .lst false [.attr (.var 5) "row"]]),
  .expr (.mt .append (.var 4) [.tup [.var 5, .var 6, .var 7, .var 8, .lst false [.attr (.var 6) "row"], .lst false [.var 0]]]),
  .asg (.tp [.nm 5, .nm 6]) (.tup [.call "Strong" [.var 0], .call "Strong" [.var 0]]),
  .asg (.tp [.nm 7, .nm 8]) (.tup [.and (.isin (.var 5) [.own "Strong"]) (.isin (.var 6) [.own "Strong"]), .lst false [.attr (.var 5) "row"]]),
  .expr (.mt .append (.var 4) [.tup [.var 5, .var 6, .var 7, .var 8, .lst false [.attr (.var 6) "row"], .lst false [.var 0]]]),
  .asg (.tp [.nm 5, .nm 6]) (.tup [.call "Sun" [.var 0, .var 1], .call "Sun" [.var 0, .var 1]]),
  .asg (.tp [.nm 7, .nm 8]) (.tup [.and (.isin (.var 5) [.own "Sun"]) (.isin (.var 6) [.own "Sun"]), .lst false [.attr (.var 5) "inner", .attr (.var 5) "outer"]]),
  .expr (.mt .append (.var 4) [.tup [.var 5, .var 6, .var 7, .var 8, .lst false [.attr (.var 6) "inner", .attr (.var 6) "outer"], .lst false [.var 0, .var 1]]]),
  .asg (.tp [.nm 5, .nm 6]) (.tup [.call "Unbalanced" [.var 0, .var 1], .call "Unbalanced" [.var 0, .var 1]]),
  .asg (.tp [.nm 7, .nm 8]) (.tup [.and (.isin (.var 5) [.own "Unbalanced"]) (.isin (.var 6) [.own "Unbalanced"]), .lst false [.attr (.var 5) "rows", .attr (.var 5) "columns"]]),
  .expr (.mt .append (.var 4) [.tup [.var 5, .var 6, .var 7, .var 8, .lst false [.attr (.var 6) "rows", .attr (.var 6) "columns"], .lst false [.var 0, .var 1]]]),
  .ret (.var 4)]
def ck__law_made_d : Ck := { N := ["a", "b", "c", "d", "rows", "one", "two", "kind", "first"], sc := defScope s__law_made_d, fns := ["Stretches", "OddHole", "OddAntihole", "Factors", "NotAbove", "SolvedEver", "NewEver", "LeastNew", "Strong", "Sun", "Unbalanced"], kfs := [("Stretches", ["rows"]), ("OddHole", ["row"]), ("OddAntihole", ["row"]), ("Factors", ["turns", "lower"]), ("NotAbove", ["row"]), ("SolvedEver", ["row"]), ("NewEver", ["table"]), ("LeastNew", ["row"]), ("Strong", ["row"]), ("Sun", ["outer", "inner"]), ("Unbalanced", ["columns", "rows"])], cls := ["Stretches", "OddHole", "OddAntihole", "Factors", "NotAbove", "SolvedEver", "NewEver", "LeastNew", "Strong", "Sun", "Unbalanced"], free := ["isinstance"], gvs := [] }
theorem ok__law_made_d : chkSs 100 ck__law_made_d (defBody s__law_made_d) ir__law_made_d = true := by kernel_rfl
/-! _law_made_e -/
def ir__law_made_e : List S := [.asg (.nm 4) (.lst true []),
  .asg (.tp [.nm 5, .nm 6]) (.tup [.call "Flat" [.var 0], .call "Flat" [.var 0]]),
  .asg (.tp [.nm 7, .nm 8]) (.tup [.and (.isin (.var 5) [.own "Flat"]) (.isin (.var 6) [.own "Flat"]), .lst false [.attr (.var 5) "row"]]),
  .expr (.mt .append (.var 4) [.tup [.var 5, .var 6, .var 7, .var 8, .lst false [.attr (.var 6) "row"], .lst false [.var 0]]]),
  .asg (.tp [.nm 5, .nm 6]) (.tup [.call "Below" [.var 0], .call "Below" [.var 0]]),
  .asg (.tp [.nm 7, .nm 8]) (.tup [.and (.isin (.var 5) [.own "Below"]) (.isin (.var 6) [.own "Below"]), .lst false [.attr (.var 5) "row"]]),
  .expr (.mt .append (.var 4) [.tup [.var 5, .var 6, .var 7, .var 8, .lst false [.attr (.var 6) "row"], .lst false [.var 0]]]),
  .asg (.tp [.nm 5, .nm 6]) (.tup [.call "Taken" [.var 0], .call "Taken" [.var 0]]),
  .asg (.tp [.nm 7, .nm 8]) (.tup [.and (.isin (.var 5) [.own "Taken"]) (.isin (.var 6) [.own "Taken"]), .lst false [.attr (.var 5) "row"]]),
  .expr (.mt .append (.var 4) [.tup [.var 5, .var 6, .var 7, .var 8, .lst false [.attr (.var 6) "row"], .lst false [.var 0]]]),
  .asg (.tp [.nm 5, .nm 6]) (.tup [.call "Ringed" [.var 0], .call "Ringed" [.var 0]]),
  .asg (.tp [.nm 7, .nm 8]) (.tup [.and (.isin (.var 5) [.own "Ringed"]) (.isin (.var 6) [.own "Ringed"]), .lst false [.attr (.var 5) "row"]]),
  .expr (.mt .append (.var 4) [.tup [.var 5, .var 6, .var 7, .var 8, .lst false [.attr (.var 6) "row"], .lst false [.var 0]]]),
  .asg (.tp [.nm 5, .nm 6]) (.tup [.call "BagTree" [.var 0, .var 1], .call "BagTree" [.var 0, .var 1]]),
  .asg (.tp [.nm 7, .nm 8]) (.tup [.and (.isin (.var 5) [.own "BagTree"]) (.isin (.var 6) [.own "BagTree"]), .lst false [.attr (.var 5) "bags", .attr (.var 5) "links"]]),
  .expr (.mt .append (.var 4) [.tup [.var 5, .var 6, .var 7, .var 8, .lst false [.attr (.var 6) "bags", .attr (.var 6) "links"], .lst false [.var 0, .var 1]]]),
  .asg (.tp [.nm 5, .nm 6]) (.tup [.call "NarrowTree" [.var 0, .var 1], .call "NarrowTree" [.var 0, .var 1]]),
  .asg (.tp [.nm 7, .nm 8]) (.tup [.and (.isin (.var 5) [.own "NarrowTree"]) (.isin (.var 6) [.own "NarrowTree"]), .lst false [.attr (.var 5) "bags", .attr (.var 5) "links"]]),
  .expr (.mt .append (.var 4) [.tup [.var 5, .var 6, .var 7, .var 8, .lst false [.attr (.var 6) "bags", .attr (.var 6) "links"], .lst false [.var 0, .var 1]]]),
  .asg (.tp [.nm 5, .nm 6]) (.tup [.call "Crowds" [.var 0], .call "Crowds" [.var 0]]),
  .asg (.tp [.nm 7, .nm 8]) (.tup [.and (.isin (.var 5) [.own "Crowds"]) (.isin (.var 6) [.own "Crowds"]), .lst false [.attr (.var 5) "lots"]]),
  .expr (.mt .append (.var 4) [.tup [.var 5, .var 6, .var 7, .var 8, .lst false [.attr (.var 6) "lots"], .lst false [.var 0]]]),
  .asg (.tp [.nm 5, .nm 6]) (.tup [.call "PathBags" [.var 0], .call "PathBags" [.var 0]]),
  .asg (.tp [.nm 7, .nm 8]) (.tup [.and (.isin (.var 5) [.own "PathBags"]) (.isin (.var 6) [.own "PathBags"]), .lst false [.attr (.var 5) "bags"]]),
  .expr (.mt .append (.var 4) [.tup [.var 5, .var 6, .var 7, .var 8, .lst false [.attr (.var 6) "bags"], .lst false [.var 0]]]),
  .ret (.var 4)]
def ck__law_made_e : Ck := { N := ["a", "b", "c", "d", "rows", "one", "two", "kind", "first"], sc := defScope s__law_made_e, fns := ["Flat", "Below", "Taken", "Ringed", "BagTree", "NarrowTree", "Crowds", "PathBags"], kfs := [("Flat", ["row"]), ("Below", ["row"]), ("Taken", ["row"]), ("Ringed", ["row"]), ("BagTree", ["links", "bags"]), ("NarrowTree", ["links", "bags"]), ("Crowds", ["lots"]), ("PathBags", ["bags"])], cls := ["Flat", "Below", "Taken", "Ringed", "BagTree", "NarrowTree", "Crowds", "PathBags"], free := ["isinstance"], gvs := [] }
theorem ok__law_made_e : chkSs 100 ck__law_made_e (defBody s__law_made_e) ir__law_made_e = true := by kernel_rfl
/-! _law_bare -/
def ir__law_bare : List S := [.asg (.nm 0) (.lst true []),
  .asg (.tp [.nm 1, .nm 2]) (.tup [.call "Parted" [], .call "Parted" []]),
  .expr (.mt .append (.var 0) [.tup [.var 1, .var 2, .isin (.var 1) [.own "Parted"], .lst false [], .lst false [], .lst false []]]),
  .asg (.tp [.nm 1, .nm 2]) (.tup [.call "Held" [], .call "Held" []]),
  .expr (.mt .append (.var 0) [.tup [.var 1, .var 2, .isin (.var 1) [.own "Held"], .lst false [], .lst false [], .lst false []]]),
  .asg (.tp [.nm 1, .nm 2]) (.tup [.call "KeepsWeb" [], .call "KeepsWeb" []]),
  .expr (.mt .append (.var 0) [.tup [.var 1, .var 2, .isin (.var 1) [.own "KeepsWeb"], .lst false [], .lst false [], .lst false []]]),
  .asg (.tp [.nm 1, .nm 2]) (.tup [.call "SumsEver" [], .call "SumsEver" []]),
  .expr (.mt .append (.var 0) [.tup [.var 1, .var 2, .isin (.var 1) [.own "SumsEver"], .lst false [], .lst false [], .lst false []]]),
  .asg (.tp [.nm 1, .nm 2]) (.tup [.call "AllAbove" [], .call "AllAbove" []]),
  .expr (.mt .append (.var 0) [.tup [.var 1, .var 2, .isin (.var 1) [.own "AllAbove"], .lst false [], .lst false [], .lst false []]]),
  .asg (.tp [.nm 1, .nm 2]) (.tup [.call "Agree" [], .call "Agree" []]),
  .expr (.mt .append (.var 0) [.tup [.var 1, .var 2, .isin (.var 1) [.own "Agree"], .lst false [], .lst false [], .lst false []]]),
  .asg (.tp [.nm 1, .nm 2]) (.tup [.call "CountsEver" [], .call "CountsEver" []]),
  .expr (.mt .append (.var 0) [.tup [.var 1, .var 2, .isin (.var 1) [.own "CountsEver"], .lst false [], .lst false [], .lst false []]]),
  .asg (.tp [.nm 1, .nm 2]) (.tup [.call "FillsEver" [], .call "FillsEver" []]),
  .expr (.mt .append (.var 0) [.tup [.var 1, .var 2, .isin (.var 1) [.own "FillsEver"], .lst false [], .lst false [], .lst false []]]),
  .asg (.tp [.nm 1, .nm 2]) (.tup [.call "AgreeTwo" [], .call "AgreeTwo" []]),
  .expr (.mt .append (.var 0) [.tup [.var 1, .var 2, .isin (.var 1) [.own "AgreeTwo"], .lst false [], .lst false [], .lst false []]]),
  .asg (.tp [.nm 1, .nm 2]) (.tup [.call "AgreeAll" [], .call "AgreeAll" []]),
  .expr (.mt .append (.var 0) [.tup [.var 1, .var 2, .isin (.var 1) [.own "AgreeAll"], .lst false [], .lst false [], .lst false []]]),
  .asg (.tp [.nm 1, .nm 2]) (.tup [.call "PartingsTied" [], .call "PartingsTied" []]),
  .expr (.mt .append (.var 0) [.tup [.var 1, .var 2, .isin (.var 1) [.own "PartingsTied"], .lst false [], .lst false [], .lst false []]]),
  .asg (.tp [.nm 1, .nm 2]) (.tup [.call "Perfect" [], .call "Perfect" []]),
  .expr (.mt .append (.var 0) [.tup [.var 1, .var 2, .isin (.var 1) [.own "Perfect"], .lst false [], .lst false [], .lst false []]]),
  .asg (.tp [.nm 1, .nm 2]) (.tup [.call "Balanced" [], .call "Balanced" []]),
  .expr (.mt .append (.var 0) [.tup [.var 1, .var 2, .isin (.var 1) [.own "Balanced"], .lst false [], .lst false [], .lst false []]]),
  .asg (.tp [.nm 1, .nm 2]) (.tup [.call "Above" [], .call "Above" []]),
  .expr (.mt .append (.var 0) [.tup [.var 1, .var 2, .isin (.var 1) [.own "Above"], .lst false [], .lst false [], .lst false []]]),
  .ret (.var 0)]
def ck__law_bare : Ck := { N := ["rows", "one", "two"], sc := defScope s__law_bare, fns := ["Parted", "Held", "KeepsWeb", "SumsEver", "AllAbove", "Agree", "CountsEver", "FillsEver", "AgreeTwo", "AgreeAll", "PartingsTied", "Perfect", "Balanced", "Above"], kfs := [], cls := ["Parted", "Held", "KeepsWeb", "SumsEver", "AllAbove", "Agree", "CountsEver", "FillsEver", "AgreeTwo", "AgreeAll", "PartingsTied", "Perfect", "Balanced", "Above"], free := ["isinstance"], gvs := [] }
theorem ok__law_bare : chkSs 100 ck__law_bare (defBody s__law_bare) ir__law_bare = true := by kernel_rfl
/-! _law_value -/
def ir__law_value : List S := [.asg (.nm 1) (.lst false [.tup [.con (.int 1), .con (.int 2)], .lst true [.con (.int 1), .lst false [.con (.int 2)]], .lst true [], .tup [], .con (.str [119, 101, 98]), .con (.int 5), .con .non, .con (.bl true), .tup [.tup [.con (.int 0), .con (.int 1)]], .lst true [.lst false [.con (.int 0)], .lst false [.con (.int 1)]], .dct false [.str [97]] [.con (.int 1)], .neg (.con (.int 3)), .con (.str []), .lst true [.con .non]]),
  .ret (.call "_law_pick" [.var 0, .bin .add (.var 1) (.lst false [.comp true (.call "_law_draw" [.var 0, .con (.int 9)]) [2] true [2] (.range1 (.con (.int 3))) none])])]
def ck__law_value : Ck := { N := ["pen", "some", "k"], sc := defScope s__law_value, fns := ["_law_pick", "_law_draw"], kfs := [], cls := [], free := ["range"], gvs := [] }
theorem ok__law_value : chkSs 100 ck__law_value (defBody s__law_value) ir__law_value = true := by kernel_rfl
/-! _law_copy -/
def ir__law_copy : List S := [.ret (.ite (.isin (.var 0) [.list]) (.bi .tuple [.var 0]) (.var 0))]
def ck__law_copy : Ck := { N := ["value"], sc := defScope s__law_copy, fns := [], kfs := [], cls := [], free := ["isinstance", "list", "tuple"], gvs := [] }
theorem ok__law_copy : chkSs 100 ck__law_copy (defBody s__law_copy) ir__law_copy = true := by kernel_rfl
/-! law -/
def ir_law : List S := [.asg (.nm 1) (.call "_law_pen" [.var 0]),
  .asg (.nm 2) (.comp false (.call "_law_value" [.var 1]) [5] true [5] (.range1 (.con (.int 4))) none),
  .asg (.tp [.nm 8, .nm 9, .nm 10, .nm 11]) (.comp false (.ite (.isin (.var 20) [.list]) (.bi .list [.var 20]) (.var 20)) [20] true [20] (.var 2) none),
  .asg (.nm 3) (.call "_law_bare" []),
  .fors [4] true (.lst false [.call "_law_made_a" [.var 8, .var 9, .var 10, .var 11], .call "_law_made_b" [.var 8, .var 9, .var 10, .var 11], .call "_law_made_c" [.var 8, .var 9, .var 10, .var 11], .call "_law_made_d" [.var 8, .var 9, .var 10, .var 11], .call "_law_made_e" [.var 8, .var 9, .var 10, .var 11]]) [.asg (.nm 3) (.bin .add (.var 3) (.var 4))],
  .fors [12, 13, 14, 15, 16, 17] false (.var 3) [.asg (.nm 18) (.bi .repr [.comp false (.call "_law_copy" [.var 20]) [20] true [20] (.var 17) none]), .ifs (.or (.isC true (.var 14) (.bl true)) (.or (.cmp .ne (.bi .repr [.var 15]) (.var 18)) (.or (.cmp .ne (.bi .repr [.var 16]) (.var 18)) (.or (.no (.cmp .eq (.var 12) (.var 12))) (.cmp .eq (.var 12) (.var 13)))))) [.ret (.con (.bl false))] []],
  .fors [5] true (.range1 (.bi .len [.var 3])) [.asg (.nm 19) (.idx (.idx (.var 3) (.bin .mod (.bi .int [.bin .add (.bin .add (.var 5) (.con (.int 1))) (.call "_law_draw" [.var 1, .bin .sub (.bi .len [.var 3]) (.con (.int 1))])]) (.bi .len [.var 3]))) (.con (.int 0))), .ifs (.or (.cmp .eq (.idx (.idx (.var 3) (.var 5)) (.con (.int 0))) (.var 19)) (.or (.cmp .eq (.var 19) (.idx (.idx (.var 3) (.var 5)) (.con (.int 0)))) (.no (.cmp .ne (.idx (.idx (.var 3) (.var 5)) (.con (.int 0))) (.var 19))))) [.ret (.con (.bl false))] []],
  .asg (.nm 6) (.call "Taken" [.idx (.var 2) (.con (.int 0))]),
  .asg (.nm 7) (.bi .repr [.attr (.var 6) "row"]),
  .ifs (.isin (.idx (.var 2) (.con (.int 0))) [.list]) [.expr (.mt .append (.idx (.var 2) (.con (.int 0))) [.con (.int 7)])] [],
  .ret (.and (.cmp .eq (.bi .repr [.attr (.var 6) "row"]) (.var 7)) (.cmp .eq (.bi .len [.var 3]) (.con (.int 66))))]
def ck_law : Ck := { N := ["script", "pen", "values", "rows", "more", "k", "kept", "before", "a", "b", "c", "d", "one", "two", "kind", "first", "second", "handed", "due", "other", "value"], sc := defScope s_law, fns := ["_law_pen", "_law_value", "_law_bare", "_law_made_a", "_law_made_b", "_law_made_c", "_law_made_d", "_law_made_e", "_law_copy", "_law_draw", "Taken"], kfs := [], cls := [], free := ["range", "isinstance", "list", "repr", "len", "int"], gvs := [] }
theorem ok_law : chkSs 100 ck_law (defBody s_law) ir_law = true := by kernel_rfl
/-! Flat -/
def ir_Flat : List S := [.asg (.at_ (.var 0) "row") (.call "copied" [.var 1])]
def ck_Flat : Ck := { N := ["self", "row"], sc := defScope s_Flat, fns := ["copied"], kfs := [], cls := [], free := [], gvs := [] }
theorem ok_Flat : chkSs 100 ck_Flat (defBody s_Flat) ir_Flat = true := by kernel_rfl
/-! Below -/
def ir_Below : List S := [.asg (.at_ (.var 0) "row") (.call "copied" [.var 1])]
def ck_Below : Ck := { N := ["self", "row"], sc := defScope s_Below, fns := ["copied"], kfs := [], cls := [], free := [], gvs := [] }
theorem ok_Below : chkSs 100 ck_Below (defBody s_Below) ir_Below = true := by kernel_rfl
/-! Taken -/
def ir_Taken : List S := [.asg (.at_ (.var 0) "row") (.call "copied" [.var 1])]
def ck_Taken : Ck := { N := ["self", "row"], sc := defScope s_Taken, fns := ["copied"], kfs := [], cls := [], free := [], gvs := [] }
theorem ok_Taken : chkSs 100 ck_Taken (defBody s_Taken) ir_Taken = true := by kernel_rfl
/-! Ringed -/
def ir_Ringed : List S := [.asg (.at_ (.var 0) "row") (.call "copied" [.var 1])]
def ck_Ringed : Ck := { N := ["self", "row"], sc := defScope s_Ringed, fns := ["copied"], kfs := [], cls := [], free := [], gvs := [] }
theorem ok_Ringed : chkSs 100 ck_Ringed (defBody s_Ringed) ir_Ringed = true := by kernel_rfl
/-! BagSum -/
def ir_BagSum : List S := [.asg (.at_ (.var 0) "tables") (.call "copied" [.var 1])]
def ck_BagSum : Ck := { N := ["self", "tables"], sc := defScope s_BagSum, fns := ["copied"], kfs := [], cls := [], free := [], gvs := [] }
theorem ok_BagSum : chkSs 100 ck_BagSum (defBody s_BagSum) ir_BagSum = true := by kernel_rfl
/-! LowAt -/
def ir_LowAt : List S := [.asg (.at_ (.var 0) "row") (.call "copied" [.var 1])]
def ck_LowAt : Ck := { N := ["self", "row"], sc := defScope s_LowAt, fns := ["copied"], kfs := [], cls := [], free := [], gvs := [] }
theorem ok_LowAt : chkSs 100 ck_LowAt (defBody s_LowAt) ir_LowAt = true := by kernel_rfl
/-! SumBar -/
def ir_SumBar : List S := [.asg (.at_ (.var 0) "other") (.call "copied" [.var 1])]
def ck_SumBar : Ck := { N := ["self", "other"], sc := defScope s_SumBar, fns := ["copied"], kfs := [], cls := [], free := [], gvs := [] }
theorem ok_SumBar : chkSs 100 ck_SumBar (defBody s_SumBar) ir_SumBar = true := by kernel_rfl
/-! Squares -/
def ir_Squares : List S := [.asg (.at_ (.var 0) "rows") (.call "copied" [.var 1])]
def ck_Squares : Ck := { N := ["self", "rows"], sc := defScope s_Squares, fns := ["copied"], kfs := [], cls := [], free := [], gvs := [] }
theorem ok_Squares : chkSs 100 ck_Squares (defBody s_Squares) ir_Squares = true := by kernel_rfl
/-! SumLost -/
def ir_SumLost : List S := [.asg (.at_ (.var 0) "table") (.call "copied" [.var 1]),
  .asg (.at_ (.var 0) "other") (.call "copied" [.var 2])]
def ck_SumLost : Ck := { N := ["self", "table", "other"], sc := defScope s_SumLost, fns := ["copied"], kfs := [], cls := [], free := [], gvs := [] }
theorem ok_SumLost : chkSs 100 ck_SumLost (defBody s_SumLost) ir_SumLost = true := by kernel_rfl
/-! Disagree -/
def ir_Disagree : List S := [.asg (.at_ (.var 0) "first") (.call "copied" [.var 1]),
  .asg (.at_ (.var 0) "second") (.call "copied" [.var 2]),
  .asg (.at_ (.var 0) "filling") (.call "copied" [.var 3])]
def ck_Disagree : Ck := { N := ["self", "first", "second", "filling"], sc := defScope s_Disagree, fns := ["copied"], kfs := [], cls := [], free := [], gvs := [] }
theorem ok_Disagree : chkSs 100 ck_Disagree (defBody s_Disagree) ir_Disagree = true := by kernel_rfl
/-! Whole -/
def ir_Whole : List S := [.asg (.at_ (.var 0) "row") (.call "copied" [.var 1])]
def ck_Whole : Ck := { N := ["self", "row"], sc := defScope s_Whole, fns := ["copied"], kfs := [], cls := [], free := [], gvs := [] }
theorem ok_Whole : chkSs 100 ck_Whole (defBody s_Whole) ir_Whole = true := by kernel_rfl
/-! CountBar -/
def ir_CountBar : List S := [.asg (.at_ (.var 0) "weights") (.call "copied" [.var 1])]
def ck_CountBar : Ck := { N := ["self", "weights"], sc := defScope s_CountBar, fns := ["copied"], kfs := [], cls := [], free := [], gvs := [] }
theorem ok_CountBar : chkSs 100 ck_CountBar (defBody s_CountBar) ir_CountBar = true := by kernel_rfl
/-! CountsLost -/
def ir_CountsLost : List S := [.asg (.at_ (.var 0) "letters") (.call "copied" [.var 1]),
  .asg (.at_ (.var 0) "counts") (.call "copied" [.var 2]),
  .asg (.at_ (.var 0) "weights") (.call "copied" [.var 3])]
def ck_CountsLost : Ck := { N := ["self", "letters", "counts", "weights"], sc := defScope s_CountsLost, fns := ["copied"], kfs := [], cls := [], free := [], gvs := [] }
theorem ok_CountsLost : chkSs 100 ck_CountsLost (defBody s_CountsLost) ir_CountsLost = true := by kernel_rfl
/-! FillLost -/
def ir_FillLost : List S := [.asg (.at_ (.var 0) "told") (.call "copied" [.var 1]),
  .asg (.at_ (.var 0) "bar") (.call "copied" [.var 2])]
def ck_FillLost : Ck := { N := ["self", "told", "bar"], sc := defScope s_FillLost, fns := ["copied"], kfs := [], cls := [], free := [], gvs := [] }
theorem ok_FillLost : chkSs 100 ck_FillLost (defBody s_FillLost) ir_FillLost = true := by kernel_rfl
/-! PartingLoose -/
def ir_PartingLoose : List S := [.asg (.at_ (.var 0) "i") (.call "copied" [.var 1]),
  .asg (.at_ (.var 0) "j") (.call "copied" [.var 2]),
  .asg (.at_ (.var 0) "lot") (.call "copied" [.var 3])]
def ck_PartingLoose : Ck := { N := ["self", "i", "j", "lot"], sc := defScope s_PartingLoose, fns := ["copied"], kfs := [], cls := [], free := [], gvs := [] }
theorem ok_PartingLoose : chkSs 100 ck_PartingLoose (defBody s_PartingLoose) ir_PartingLoose = true := by kernel_rfl
/-! Factors -/
def ir_Factors : List S := [.asg (.at_ (.var 0) "lower") (.call "copied" [.var 1]),
  .asg (.at_ (.var 0) "turns") (.call "copied" [.var 2])]
def ck_Factors : Ck := { N := ["self", "lower", "turns"], sc := defScope s_Factors, fns := ["copied"], kfs := [], cls := [], free := [], gvs := [] }
theorem ok_Factors : chkSs 100 ck_Factors (defBody s_Factors) ir_Factors = true := by kernel_rfl
/-! NotAbove -/
def ir_NotAbove : List S := [.asg (.at_ (.var 0) "row") (.call "copied" [.var 1])]
def ck_NotAbove : Ck := { N := ["self", "row"], sc := defScope s_NotAbove, fns := ["copied"], kfs := [], cls := [], free := [], gvs := [] }
theorem ok_NotAbove : chkSs 100 ck_NotAbove (defBody s_NotAbove) ir_NotAbove = true := by kernel_rfl
/-! SolvedEver -/
def ir_SolvedEver : List S := [.asg (.at_ (.var 0) "row") (.call "copied" [.var 1])]
def ck_SolvedEver : Ck := { N := ["self", "row"], sc := defScope s_SolvedEver, fns := ["copied"], kfs := [], cls := [], free := [], gvs := [] }
theorem ok_SolvedEver : chkSs 100 ck_SolvedEver (defBody s_SolvedEver) ir_SolvedEver = true := by kernel_rfl
/-! NewEver -/
def ir_NewEver : List S := [.asg (.at_ (.var 0) "table") (.call "copied" [.var 1])]
def ck_NewEver : Ck := { N := ["self", "table"], sc := defScope s_NewEver, fns := ["copied"], kfs := [], cls := [], free := [], gvs := [] }
theorem ok_NewEver : chkSs 100 ck_NewEver (defBody s_NewEver) ir_NewEver = true := by kernel_rfl
/-! LeastNew -/
def ir_LeastNew : List S := [.asg (.at_ (.var 0) "row") (.call "copied" [.var 1])]
def ck_LeastNew : Ck := { N := ["self", "row"], sc := defScope s_LeastNew, fns := ["copied"], kfs := [], cls := [], free := [], gvs := [] }
theorem ok_LeastNew : chkSs 100 ck_LeastNew (defBody s_LeastNew) ir_LeastNew = true := by kernel_rfl
/-! BagTree -/
def ir_BagTree : List S := [.asg (.at_ (.var 0) "bags") (.call "copied" [.var 1]),
  .asg (.at_ (.var 0) "links") (.call "copied" [.var 2])]
def ck_BagTree : Ck := { N := ["self", "bags", "links"], sc := defScope s_BagTree, fns := ["copied"], kfs := [], cls := [], free := [], gvs := [] }
theorem ok_BagTree : chkSs 100 ck_BagTree (defBody s_BagTree) ir_BagTree = true := by kernel_rfl
/-! RingTables -/
def ir_RingTables : List S := [.asg (.at_ (.var 0) "told") (.call "copied" [.var 1]),
  .asg (.at_ (.var 0) "bars") (.call "copied" [.var 2]),
  .asg (.at_ (.var 0) "steps") (.call "copied" [.var 3])]
def ck_RingTables : Ck := { N := ["self", "told", "bars", "steps"], sc := defScope s_RingTables, fns := ["copied"], kfs := [], cls := [], free := [], gvs := [] }
theorem ok_RingTables : chkSs 100 ck_RingTables (defBody s_RingTables) ir_RingTables = true := by kernel_rfl
/-! NewNumber -/
def ir_NewNumber : List S := [.asg (.at_ (.var 0) "i") (.call "copied" [.var 1]),
  .asg (.at_ (.var 0) "j") (.call "copied" [.var 2]),
  .asg (.at_ (.var 0) "number") (.call "copied" [.var 3])]
def ck_NewNumber : Ck := { N := ["self", "i", "j", "number"], sc := defScope s_NewNumber, fns := ["copied"], kfs := [], cls := [], free := [], gvs := [] }
theorem ok_NewNumber : chkSs 100 ck_NewNumber (defBody s_NewNumber) ir_NewNumber = true := by kernel_rfl
/-! RingCounts -/
def ir_RingCounts : List S := [.asg (.at_ (.var 0) "letters") (.call "copied" [.var 1]),
  .asg (.at_ (.var 0) "counts") (.call "copied" [.var 2]),
  .asg (.at_ (.var 0) "weights") (.call "copied" [.var 3])]
def ck_RingCounts : Ck := { N := ["self", "letters", "counts", "weights"], sc := defScope s_RingCounts, fns := ["copied"], kfs := [], cls := [], free := [], gvs := [] }
theorem ok_RingCounts : chkSs 100 ck_RingCounts (defBody s_RingCounts) ir_RingCounts = true := by kernel_rfl
/-! PartBreak -/
def ir_PartBreak : List S := [.asg (.at_ (.var 0) "lot") (.call "copied" [.var 1]),
  .asg (.at_ (.var 0) "i") (.call "copied" [.var 2]),
  .asg (.at_ (.var 0) "j") (.call "copied" [.var 3])]
def ck_PartBreak : Ck := { N := ["self", "lot", "i", "j"], sc := defScope s_PartBreak, fns := ["copied"], kfs := [], cls := [], free := [], gvs := [] }
theorem ok_PartBreak : chkSs 100 ck_PartBreak (defBody s_PartBreak) ir_PartBreak = true := by kernel_rfl
/-! Way -/
def ir_Way : List S := [.asg (.at_ (.var 0) "row") (.call "copied" [.var 1])]
def ck_Way : Ck := { N := ["self", "row"], sc := defScope s_Way, fns := ["copied"], kfs := [], cls := [], free := [], gvs := [] }
theorem ok_Way : chkSs 100 ck_Way (defBody s_Way) ir_Way = true := by kernel_rfl
/-! Unheld -/
def ir_Unheld : List S := [.asg (.at_ (.var 0) "filling") (.call "copied" [.var 1])]
def ck_Unheld : Ck := { N := ["self", "filling"], sc := defScope s_Unheld, fns := ["copied"], kfs := [], cls := [], free := [], gvs := [] }
theorem ok_Unheld : chkSs 100 ck_Unheld (defBody s_Unheld) ir_Unheld = true := by kernel_rfl
/-! Breaks -/
def ir_Breaks : List S := [.asg (.at_ (.var 0) "one") (.call "copied" [.var 1]),
  .asg (.at_ (.var 0) "other") (.call "copied" [.var 2]),
  .asg (.at_ (.var 0) "given") (.call "copied" [.var 3]),
  .asg (.at_ (.var 0) "filling") (.call "copied" [.var 4])]
def ck_Breaks : Ck := { N := ["self", "one", "other", "given", "filling"], sc := defScope s_Breaks, fns := ["copied"], kfs := [], cls := [], free := [], gvs := [] }
theorem ok_Breaks : chkSs 100 ck_Breaks (defBody s_Breaks) ir_Breaks = true := by kernel_rfl
/-! FreeLot -/
def ir_FreeLot : List S := [.asg (.at_ (.var 0) "lot") (.call "copied" [.var 1]),
  .asg (.at_ (.var 0) "covers") (.call "copied" [.var 2])]
def ck_FreeLot : Ck := { N := ["self", "lot", "covers"], sc := defScope s_FreeLot, fns := ["copied"], kfs := [], cls := [], free := [], gvs := [] }
theorem ok_FreeLot : chkSs 100 ck_FreeLot (defBody s_FreeLot) ir_FreeLot = true := by kernel_rfl
/-! TiedCover -/
def ir_TiedCover : List S := [.asg (.at_ (.var 0) "lots") (.call "copied" [.var 1]),
  .asg (.at_ (.var 0) "lot") (.call "copied" [.var 2])]
def ck_TiedCover : Ck := { N := ["self", "lots", "lot"], sc := defScope s_TiedCover, fns := ["copied"], kfs := [], cls := [], free := [], gvs := [] }
theorem ok_TiedCover : chkSs 100 ck_TiedCover (defBody s_TiedCover) ir_TiedCover = true := by kernel_rfl
/-! CornerLow -/
def ir_CornerLow : List S := [.asg (.at_ (.var 0) "lot") (.call "copied" [.var 1]),
  .asg (.at_ (.var 0) "row") (.call "copied" [.var 2])]
def ck_CornerLow : Ck := { N := ["self", "lot", "row"], sc := defScope s_CornerLow, fns := ["copied"], kfs := [], cls := [], free := [], gvs := [] }
theorem ok_CornerLow : chkSs 100 ck_CornerLow (defBody s_CornerLow) ir_CornerLow = true := by kernel_rfl
/-! Strong -/
def ir_Strong : List S := [.asg (.at_ (.var 0) "row") (.call "copied" [.var 1])]
def ck_Strong : Ck := { N := ["self", "row"], sc := defScope s_Strong, fns := ["copied"], kfs := [], cls := [], free := [], gvs := [] }
theorem ok_Strong : chkSs 100 ck_Strong (defBody s_Strong) ir_Strong = true := by kernel_rfl
/-! Sun -/
def ir_Sun : List S := [.asg (.at_ (.var 0) "inner") (.call "copied" [.var 1]),
  .asg (.at_ (.var 0) "outer") (.call "copied" [.var 2])]
def ck_Sun : Ck := { N := ["self", "inner", "outer"], sc := defScope s_Sun, fns := ["copied"], kfs := [], cls := [], free := [], gvs := [] }
theorem ok_Sun : chkSs 100 ck_Sun (defBody s_Sun) ir_Sun = true := by kernel_rfl
/-! Unbalanced -/
def ir_Unbalanced : List S := [.asg (.at_ (.var 0) "rows") (.call "copied" [.var 1]),
  .asg (.at_ (.var 0) "columns") (.call "copied" [.var 2])]
def ck_Unbalanced : Ck := { N := ["self", "rows", "columns"], sc := defScope s_Unbalanced, fns := ["copied"], kfs := [], cls := [], free := [], gvs := [] }
theorem ok_Unbalanced : chkSs 100 ck_Unbalanced (defBody s_Unbalanced) ir_Unbalanced = true := by kernel_rfl
/-! Cover -/
def ir_Cover : List S := [.asg (.at_ (.var 0) "lot") (.call "copied" [.var 1]),
  .asg (.at_ (.var 0) "amounts") (.call "copied" [.var 2])]
def ck_Cover : Ck := { N := ["self", "lot", "amounts"], sc := defScope s_Cover, fns := ["copied"], kfs := [], cls := [], free := [], gvs := [] }
theorem ok_Cover : chkSs 100 ck_Cover (defBody s_Cover) ir_Cover = true := by kernel_rfl
/-! CoverGap -/
def ir_CoverGap : List S := [.asg (.at_ (.var 0) "shares") (.call "copied" [.var 1]),
  .asg (.at_ (.var 0) "amounts") (.call "copied" [.var 2])]
def ck_CoverGap : Ck := { N := ["self", "shares", "amounts"], sc := defScope s_CoverGap, fns := ["copied"], kfs := [], cls := [], free := [], gvs := [] }
theorem ok_CoverGap : chkSs 100 ck_CoverGap (defBody s_CoverGap) ir_CoverGap = true := by kernel_rfl
/-! BagFactors -/
def ir_BagFactors : List S := [.asg (.at_ (.var 0) "tables") (.call "copied" [.var 1])]
def ck_BagFactors : Ck := { N := ["self", "tables"], sc := defScope s_BagFactors, fns := ["copied"], kfs := [], cls := [], free := [], gvs := [] }
theorem ok_BagFactors : chkSs 100 ck_BagFactors (defBody s_BagFactors) ir_BagFactors = true := by kernel_rfl
/-! NoFactors -/
def ir_NoFactors : List S := [.asg (.at_ (.var 0) "i") (.call "copied" [.var 1]),
  .asg (.at_ (.var 0) "j") (.call "copied" [.var 2]),
  .asg (.at_ (.var 0) "filling") (.call "copied" [.var 3])]
def ck_NoFactors : Ck := { N := ["self", "i", "j", "filling"], sc := defScope s_NoFactors, fns := ["copied"], kfs := [], cls := [], free := [], gvs := [] }
theorem ok_NoFactors : chkSs 100 ck_NoFactors (defBody s_NoFactors) ir_NoFactors = true := by kernel_rfl
/-! UnlikeTwo -/
def ir_UnlikeTwo : List S := [.asg (.at_ (.var 0) "one") (.call "copied" [.var 1]),
  .asg (.at_ (.var 0) "other") (.call "copied" [.var 2]),
  .asg (.at_ (.var 0) "row") (.call "copied" [.var 3])]
def ck_UnlikeTwo : Ck := { N := ["self", "one", "other", "row"], sc := defScope s_UnlikeTwo, fns := ["copied"], kfs := [], cls := [], free := [], gvs := [] }
theorem ok_UnlikeTwo : chkSs 100 ck_UnlikeTwo (defBody s_UnlikeTwo) ir_UnlikeTwo = true := by kernel_rfl
/-! Hanging -/
def ir_Hanging : List S := [.asg (.at_ (.var 0) "one") (.call "copied" [.var 1]),
  .asg (.at_ (.var 0) "row") (.call "copied" [.var 2])]
def ck_Hanging : Ck := { N := ["self", "one", "row"], sc := defScope s_Hanging, fns := ["copied"], kfs := [], cls := [], free := [], gvs := [] }
theorem ok_Hanging : chkSs 100 ck_Hanging (defBody s_Hanging) ir_Hanging = true := by kernel_rfl
/-! Folds -/
def ir_Folds : List S := [.asg (.at_ (.var 0) "steps") (.call "copied" [.var 1])]
def ck_Folds : Ck := { N := ["self", "steps"], sc := defScope s_Folds, fns := ["copied"], kfs := [], cls := [], free := [], gvs := [] }
theorem ok_Folds : chkSs 100 ck_Folds (defBody s_Folds) ir_Folds = true := by kernel_rfl
/-! Knot -/
def ir_Knot : List S := [.asg (.at_ (.var 0) "kind") (.call "copied" [.var 1]),
  .asg (.at_ (.var 0) "row") (.call "copied" [.var 2])]
def ck_Knot : Ck := { N := ["self", "kind", "row"], sc := defScope s_Knot, fns := ["copied"], kfs := [], cls := [], free := [], gvs := [] }
theorem ok_Knot : chkSs 100 ck_Knot (defBody s_Knot) ir_Knot = true := by kernel_rfl
/-! Signed -/
def ir_Signed : List S := [.asg (.at_ (.var 0) "rows") (.call "copied" [.var 1])]
def ck_Signed : Ck := { N := ["self", "rows"], sc := defScope s_Signed, fns := ["copied"], kfs := [], cls := [], free := [], gvs := [] }
theorem ok_Signed : chkSs 100 ck_Signed (defBody s_Signed) ir_Signed = true := by kernel_rfl
/-! Hued -/
def ir_Hued : List S := [.asg (.at_ (.var 0) "row") (.call "copied" [.var 1]),
  .asg (.at_ (.var 0) "lot") (.call "copied" [.var 2])]
def ck_Hued : Ck := { N := ["self", "row", "lot"], sc := defScope s_Hued, fns := ["copied"], kfs := [], cls := [], free := [], gvs := [] }
theorem ok_Hued : chkSs 100 ck_Hued (defBody s_Hued) ir_Hued = true := by kernel_rfl
/-! BagRow -/
def ir_BagRow : List S := [.asg (.at_ (.var 0) "bags") (.call "copied" [.var 1])]
def ck_BagRow : Ck := { N := ["self", "bags"], sc := defScope s_BagRow, fns := ["copied"], kfs := [], cls := [], free := [], gvs := [] }
theorem ok_BagRow : chkSs 100 ck_BagRow (defBody s_BagRow) ir_BagRow = true := by kernel_rfl
/-! FarThree -/
def ir_FarThree : List S := [.asg (.at_ (.var 0) "places") (.call "copied" [.var 1]),
  .asg (.at_ (.var 0) "ways") (.call "copied" [.var 2])]
def ck_FarThree : Ck := { N := ["self", "places", "ways"], sc := defScope s_FarThree, fns := ["copied"], kfs := [], cls := [], free := [], gvs := [] }
theorem ok_FarThree : chkSs 100 ck_FarThree (defBody s_FarThree) ir_FarThree = true := by kernel_rfl
/-! Stretches -/
def ir_Stretches : List S := [.asg (.at_ (.var 0) "rows") (.call "copied" [.var 1])]
def ck_Stretches : Ck := { N := ["self", "rows"], sc := defScope s_Stretches, fns := ["copied"], kfs := [], cls := [], free := [], gvs := [] }
theorem ok_Stretches : chkSs 100 ck_Stretches (defBody s_Stretches) ir_Stretches = true := by kernel_rfl
/-! OddHole -/
def ir_OddHole : List S := [.asg (.at_ (.var 0) "row") (.call "copied" [.var 1])]
def ck_OddHole : Ck := { N := ["self", "row"], sc := defScope s_OddHole, fns := ["copied"], kfs := [], cls := [], free := [], gvs := [] }
theorem ok_OddHole : chkSs 100 ck_OddHole (defBody s_OddHole) ir_OddHole = true := by kernel_rfl
/-! OddAntihole -/
def ir_OddAntihole : List S := [.asg (.at_ (.var 0) "row") (.call "copied" [.var 1])]
def ck_OddAntihole : Ck := { N := ["self", "row"], sc := defScope s_OddAntihole, fns := ["copied"], kfs := [], cls := [], free := [], gvs := [] }
theorem ok_OddAntihole : chkSs 100 ck_OddAntihole (defBody s_OddAntihole) ir_OddAntihole = true := by kernel_rfl
/-! NarrowTree -/
def ir_NarrowTree : List S := [.asg (.at_ (.var 0) "bags") (.call "copied" [.var 1]),
  .asg (.at_ (.var 0) "links") (.call "copied" [.var 2])]
def ck_NarrowTree : Ck := { N := ["self", "bags", "links"], sc := defScope s_NarrowTree, fns := ["copied"], kfs := [], cls := [], free := [], gvs := [] }
theorem ok_NarrowTree : chkSs 100 ck_NarrowTree (defBody s_NarrowTree) ir_NarrowTree = true := by kernel_rfl
/-! Crowds -/
def ir_Crowds : List S := [.asg (.at_ (.var 0) "lots") (.call "copied" [.var 1])]
def ck_Crowds : Ck := { N := ["self", "lots"], sc := defScope s_Crowds, fns := ["copied"], kfs := [], cls := [], free := [], gvs := [] }
theorem ok_Crowds : chkSs 100 ck_Crowds (defBody s_Crowds) ir_Crowds = true := by kernel_rfl
/-! PathBags -/
def ir_PathBags : List S := [.asg (.at_ (.var 0) "bags") (.call "copied" [.var 1])]
def ck_PathBags : Ck := { N := ["self", "bags"], sc := defScope s_PathBags, fns := ["copied"], kfs := [], cls := [], free := [], gvs := [] }
theorem ok_PathBags : chkSs 100 ck_PathBags (defBody s_PathBags) ir_PathBags = true := by kernel_rfl
end M.K90
end
section
set_option Elab.async false
set_option linter.all false
set_option maxRecDepth 100000
set_option maxHeartbeats 0
set_option autoImplicit false
namespace M.K90
open PySem PySem.Spec PyProof.Rows L2
noncomputable abbrev g0 : Pg := tb.pg []
noncomputable abbrev g1 : Pg := tb.pg [("copied", copF g0)]
noncomputable abbrev gk : Pg := tb.pg [("_law_draw", drawF g0)]
noncomputable abbrev gv : Pg := tb.pg [("_law_pick", pickF gk), ("_law_draw", drawF g0)]
def lb : List String := ["Parted", "Held", "KeepsWeb", "SumsEver", "AllAbove", "Agree", "CountsEver", "FillsEver", "AgreeTwo", "AgreeAll", "PartingsTied", "Perfect", "Balanced", "Above"]
noncomputable abbrev gB : Pg := tb.pg (lb.map fun x => (x, mkE false x))
noncomputable abbrev bareF : Fs := runF gB 0 false 3 0 (bareIR lb)
def la1 : List (String × List String) := [("Way", ["row"]), ("Unheld", ["filling"]), ("Breaks", ["one", "other", "given", "filling"]), ("FreeLot", ["lot", "covers"]), ("TiedCover", ["lots", "lot"]), ("BagSum", ["tables"]), ("LowAt", ["row"]), ("SumBar", ["other"]), ("Squares", ["rows"]), ("SumLost", ["table", "other"]), ("CornerLow", ["lot", "row"])]
noncomputable abbrev ga1 : Pg := tb.pg (la1.map fun p => (p.1, mkr g1 p))
noncomputable abbrev madea : Fs := runF ga1 0 false 9 4 (madeIR la1)
def lb1 : List (String × List String) := [("Disagree", ["first", "second", "filling"]), ("Whole", ["row"]), ("CountBar", ["weights"]), ("CountsLost", ["letters", "counts", "weights"]), ("Cover", ["lot", "amounts"]), ("CoverGap", ["shares", "amounts"]), ("BagFactors", ["tables"]), ("NoFactors", ["i", "j", "filling"]), ("FillLost", ["told", "bar"]), ("Folds", ["steps"]), ("Knot", ["kind", "row"])]
noncomputable abbrev gb1 : Pg := tb.pg (lb1.map fun p => (p.1, mkr g1 p))
noncomputable abbrev madeb : Fs := runF gb1 0 false 9 4 (madeIR lb1)
def lc1 : List (String × List String) := [("Signed", ["rows"]), ("Hued", ["row", "lot"]), ("UnlikeTwo", ["one", "other", "row"]), ("Hanging", ["one", "row"]), ("RingTables", ["told", "bars", "steps"]), ("NewNumber", ["i", "j", "number"]), ("RingCounts", ["letters", "counts", "weights"]), ("PartBreak", ["lot", "i", "j"]), ("PartingLoose", ["i", "j", "lot"]), ("BagRow", ["bags"]), ("FarThree", ["places", "ways"])]
noncomputable abbrev gc1 : Pg := tb.pg (lc1.map fun p => (p.1, mkr g1 p))
noncomputable abbrev madec : Fs := runF gc1 0 false 9 4 (madeIR lc1)
def ld1 : List (String × List String) := [("Stretches", ["rows"]), ("OddHole", ["row"]), ("OddAntihole", ["row"]), ("Factors", ["lower", "turns"]), ("NotAbove", ["row"]), ("SolvedEver", ["row"]), ("NewEver", ["table"]), ("LeastNew", ["row"]), ("Strong", ["row"]), ("Sun", ["inner", "outer"]), ("Unbalanced", ["rows", "columns"])]
noncomputable abbrev gd1 : Pg := tb.pg (ld1.map fun p => (p.1, mkr g1 p))
noncomputable abbrev maded : Fs := runF gd1 0 false 9 4 (madeIR ld1)
def le1 : List (String × List String) := [("Flat", ["row"]), ("Below", ["row"]), ("Taken", ["row"]), ("Ringed", ["row"]), ("BagTree", ["bags", "links"]), ("NarrowTree", ["bags", "links"]), ("Crowds", ["lots"]), ("PathBags", ["bags"])]
noncomputable abbrev ge1 : Pg := tb.pg (le1.map fun p => (p.1, mkr g1 p))
noncomputable abbrev madee : Fs := runF ge1 0 false 9 4 (madeIR le1)
section
variable {P : Program} {w : World} {K : PySem.W.Frag} {mg : Str → Option Value} {base : Heap} {chk : PySem.W.Frag → Bool}
theorem c_copied (T : TabP tb K) (X : K.In base) (Gn : base.Ns mainGlobals mg) (c : SaysM chk fnl K) : CallG ⟨P, w, K, mg, base⟩ (wlOf K) 1 "copied" (copF g0) :=
  call_def (Nf := 0) (md := false) (ps := ["value"]) (G := g0) (k := 0) T X Gn c (List.mem_of_getElem? (i := 0) rfl) (List.mem_of_getElem? (i := 0) rfl) rfl (by kernel_rfl) (fun _ _ _ _ _ _ us hl => match us, hl with | [_], _ => rfl) rfl
    (gok T X Gn .nil .nil (by kernel_rfl) (by kernel_rfl) (by kernel_rfl)) ok_copied
theorem c__law_copy (T : TabP tb K) (X : K.In base) (Gn : base.Ns mainGlobals mg) (c : SaysM chk fnl K) : CallG ⟨P, w, K, mg, base⟩ (wlOf K) 1 "_law_copy" (copF g0) :=
  call_def (Nf := 0) (md := false) (ps := ["value"]) (G := g0) (k := 0) T X Gn c (List.mem_of_getElem? (i := 11) rfl) (List.mem_of_getElem? (i := 11) rfl) rfl (by kernel_rfl) (fun _ _ _ _ _ _ us hl => match us, hl with | [_], _ => rfl) rfl
    (gok T X Gn .nil .nil (by kernel_rfl) (by kernel_rfl) (by kernel_rfl)) ok__law_copy
theorem c__law_pen (T : TabP tb K) (X : K.In base) (Gn : base.Ns mainGlobals mg) (c : SaysM chk fnl K) : CallG ⟨P, w, K, mg, base⟩ (wlOf K) 1 "_law_pen" (penF g0) :=
  call_def (Nf := 0) (md := false) (ps := ["script"]) (G := g0) (k := 0) T X Gn c (List.mem_of_getElem? (i := 1) rfl) (List.mem_of_getElem? (i := 1) rfl) rfl (by kernel_rfl) (fun _ _ _ _ _ _ us hl => match us, hl with | [_], _ => rfl) rfl
    (gok T X Gn .nil .nil (by kernel_rfl) (by kernel_rfl) (by kernel_rfl)) ok__law_pen
theorem c__law_draw (T : TabP tb K) (X : K.In base) (Gn : base.Ns mainGlobals mg) (c : SaysM chk fnl K) : CallG ⟨P, w, K, mg, base⟩ (wlOf K) 1 "_law_draw" (drawF g0) :=
  call_def (Nf := 0) (md := false) (ps := ["pen", "many"]) (G := g0) (k := 0) T X Gn c (List.mem_of_getElem? (i := 2) rfl) (List.mem_of_getElem? (i := 2) rfl) rfl (by kernel_rfl) (fun _ _ _ _ _ _ us hl => match us, hl with | [_, _], _ => rfl) rfl
    (gok T X Gn .nil .nil (by kernel_rfl) (by kernel_rfl) (by kernel_rfl)) ok__law_draw
theorem c__law_pick (T : TabP tb K) (X : K.In base) (Gn : base.Ns mainGlobals mg) (c : SaysM chk fnl K) : CallG ⟨P, w, K, mg, base⟩ (wlOf K) 2 "_law_pick" (pickF gk) :=
  call_def (Nf := 0) (md := false) (ps := ["pen", "some"]) (G := gk) (k := 1) T X Gn c (List.mem_of_getElem? (i := 3) rfl) (List.mem_of_getElem? (i := 3) rfl) rfl (by kernel_rfl) (fun _ _ _ _ _ _ us hl => match us, hl with | [_, _], _ => rfl) rfl
    (gok T X Gn (.cons (c__law_draw T X Gn c) .nil) .nil (by kernel_rfl) (by kernel_rfl) (by kernel_rfl)) ok__law_pick
theorem c__law_value (T : TabP tb K) (X : K.In base) (Gn : base.Ns mainGlobals mg) (c : SaysM chk fnl K) : CallG ⟨P, w, K, mg, base⟩ (wlOf K) 3 "_law_value" (valueF gv) :=
  call_def (Nf := 0) (md := false) (ps := ["pen"]) (G := gv) (k := 2) T X Gn c (List.mem_of_getElem? (i := 10) rfl) (List.mem_of_getElem? (i := 10) rfl) rfl (by kernel_rfl) (fun _ _ _ _ _ _ us hl => match us, hl with | [_], _ => rfl) rfl
    (gok T X Gn (.cons (c__law_pick T X Gn c) (.cons ((c__law_draw T X Gn c).mono (by decide)) .nil)) .nil (by kernel_rfl) (by kernel_rfl) (by kernel_rfl)) ok__law_value
theorem c_Flat (T : TabP tb K) (X : K.In base) (Gn : base.Ns mainGlobals mg) (c : SaysM chk fnl K) : CallG ⟨P, w, K, mg, base⟩ (wlOf K) 3 "Flat" (mkr g1 ("Flat", ["row"])) ∧ CallR' ⟨P, w, K, mg, base⟩ (wlOf K) 3 "Flat" ["row"] (mkr g1 ("Flat", ["row"])) := by
  obtain ⟨h1, h2⟩ := call_cls (Nf := 0) (md := false) (md2 := false) (ps := ["self", "row"]) (ks := ["row"]) (G := g1) (k := 1) (s := s_Flat) (x := "Flat") (qual := "Flat.__init__") (fs := ["row"]) T X Gn c (List.mem_of_getElem? (i := 0) rfl) (List.mem_of_getElem? (i := 13) rfl) rfl (by kernel_rfl) (fun _ _ _ _ _ _ us hl => match us, hl with | [_, _], _ => rfl) rfl
    (gok T X Gn (.cons (c_copied T X Gn c) .nil) .nil (by kernel_rfl) (by kernel_rfl) (by kernel_rfl)) ok_Flat
  exact ⟨h1, h2 fun _ _ _ _ _ _ a us hl => match us, hl with | [_], _ => rfl⟩
theorem c_Below (T : TabP tb K) (X : K.In base) (Gn : base.Ns mainGlobals mg) (c : SaysM chk fnl K) : CallG ⟨P, w, K, mg, base⟩ (wlOf K) 3 "Below" (mkr g1 ("Below", ["row"])) ∧ CallR' ⟨P, w, K, mg, base⟩ (wlOf K) 3 "Below" ["row"] (mkr g1 ("Below", ["row"])) := by
  obtain ⟨h1, h2⟩ := call_cls (Nf := 0) (md := false) (md2 := false) (ps := ["self", "row"]) (ks := ["row"]) (G := g1) (k := 1) (s := s_Below) (x := "Below") (qual := "Below.__init__") (fs := ["row"]) T X Gn c (List.mem_of_getElem? (i := 1) rfl) (List.mem_of_getElem? (i := 14) rfl) rfl (by kernel_rfl) (fun _ _ _ _ _ _ us hl => match us, hl with | [_, _], _ => rfl) rfl
    (gok T X Gn (.cons (c_copied T X Gn c) .nil) .nil (by kernel_rfl) (by kernel_rfl) (by kernel_rfl)) ok_Below
  exact ⟨h1, h2 fun _ _ _ _ _ _ a us hl => match us, hl with | [_], _ => rfl⟩
theorem c_Taken (T : TabP tb K) (X : K.In base) (Gn : base.Ns mainGlobals mg) (c : SaysM chk fnl K) : CallG ⟨P, w, K, mg, base⟩ (wlOf K) 3 "Taken" (mkr g1 ("Taken", ["row"])) ∧ CallR' ⟨P, w, K, mg, base⟩ (wlOf K) 3 "Taken" ["row"] (mkr g1 ("Taken", ["row"])) := by
  obtain ⟨h1, h2⟩ := call_cls (Nf := 0) (md := false) (md2 := false) (ps := ["self", "row"]) (ks := ["row"]) (G := g1) (k := 1) (s := s_Taken) (x := "Taken") (qual := "Taken.__init__") (fs := ["row"]) T X Gn c (List.mem_of_getElem? (i := 2) rfl) (List.mem_of_getElem? (i := 15) rfl) rfl (by kernel_rfl) (fun _ _ _ _ _ _ us hl => match us, hl with | [_, _], _ => rfl) rfl
    (gok T X Gn (.cons (c_copied T X Gn c) .nil) .nil (by kernel_rfl) (by kernel_rfl) (by kernel_rfl)) ok_Taken
  exact ⟨h1, h2 fun _ _ _ _ _ _ a us hl => match us, hl with | [_], _ => rfl⟩
theorem c_Ringed (T : TabP tb K) (X : K.In base) (Gn : base.Ns mainGlobals mg) (c : SaysM chk fnl K) : CallG ⟨P, w, K, mg, base⟩ (wlOf K) 3 "Ringed" (mkr g1 ("Ringed", ["row"])) ∧ CallR' ⟨P, w, K, mg, base⟩ (wlOf K) 3 "Ringed" ["row"] (mkr g1 ("Ringed", ["row"])) := by
  obtain ⟨h1, h2⟩ := call_cls (Nf := 0) (md := false) (md2 := false) (ps := ["self", "row"]) (ks := ["row"]) (G := g1) (k := 1) (s := s_Ringed) (x := "Ringed") (qual := "Ringed.__init__") (fs := ["row"]) T X Gn c (List.mem_of_getElem? (i := 3) rfl) (List.mem_of_getElem? (i := 16) rfl) rfl (by kernel_rfl) (fun _ _ _ _ _ _ us hl => match us, hl with | [_, _], _ => rfl) rfl
    (gok T X Gn (.cons (c_copied T X Gn c) .nil) .nil (by kernel_rfl) (by kernel_rfl) (by kernel_rfl)) ok_Ringed
  exact ⟨h1, h2 fun _ _ _ _ _ _ a us hl => match us, hl with | [_], _ => rfl⟩
theorem c_BagSum (T : TabP tb K) (X : K.In base) (Gn : base.Ns mainGlobals mg) (c : SaysM chk fnl K) : CallG ⟨P, w, K, mg, base⟩ (wlOf K) 3 "BagSum" (mkr g1 ("BagSum", ["tables"])) ∧ CallR' ⟨P, w, K, mg, base⟩ (wlOf K) 3 "BagSum" ["tables"] (mkr g1 ("BagSum", ["tables"])) := by
  obtain ⟨h1, h2⟩ := call_cls (Nf := 0) (md := false) (md2 := false) (ps := ["self", "tables"]) (ks := ["tables"]) (G := g1) (k := 1) (s := s_BagSum) (x := "BagSum") (qual := "BagSum.__init__") (fs := ["tables"]) T X Gn c (List.mem_of_getElem? (i := 4) rfl) (List.mem_of_getElem? (i := 17) rfl) rfl (by kernel_rfl) (fun _ _ _ _ _ _ us hl => match us, hl with | [_, _], _ => rfl) rfl
    (gok T X Gn (.cons (c_copied T X Gn c) .nil) .nil (by kernel_rfl) (by kernel_rfl) (by kernel_rfl)) ok_BagSum
  exact ⟨h1, h2 fun _ _ _ _ _ _ a us hl => match us, hl with | [_], _ => rfl⟩
theorem c_LowAt (T : TabP tb K) (X : K.In base) (Gn : base.Ns mainGlobals mg) (c : SaysM chk fnl K) : CallG ⟨P, w, K, mg, base⟩ (wlOf K) 3 "LowAt" (mkr g1 ("LowAt", ["row"])) ∧ CallR' ⟨P, w, K, mg, base⟩ (wlOf K) 3 "LowAt" ["row"] (mkr g1 ("LowAt", ["row"])) := by
  obtain ⟨h1, h2⟩ := call_cls (Nf := 0) (md := false) (md2 := false) (ps := ["self", "row"]) (ks := ["row"]) (G := g1) (k := 1) (s := s_LowAt) (x := "LowAt") (qual := "LowAt.__init__") (fs := ["row"]) T X Gn c (List.mem_of_getElem? (i := 5) rfl) (List.mem_of_getElem? (i := 18) rfl) rfl (by kernel_rfl) (fun _ _ _ _ _ _ us hl => match us, hl with | [_, _], _ => rfl) rfl
    (gok T X Gn (.cons (c_copied T X Gn c) .nil) .nil (by kernel_rfl) (by kernel_rfl) (by kernel_rfl)) ok_LowAt
  exact ⟨h1, h2 fun _ _ _ _ _ _ a us hl => match us, hl with | [_], _ => rfl⟩
theorem c_SumBar (T : TabP tb K) (X : K.In base) (Gn : base.Ns mainGlobals mg) (c : SaysM chk fnl K) : CallG ⟨P, w, K, mg, base⟩ (wlOf K) 3 "SumBar" (mkr g1 ("SumBar", ["other"])) ∧ CallR' ⟨P, w, K, mg, base⟩ (wlOf K) 3 "SumBar" ["other"] (mkr g1 ("SumBar", ["other"])) := by
  obtain ⟨h1, h2⟩ := call_cls (Nf := 0) (md := false) (md2 := false) (ps := ["self", "other"]) (ks := ["other"]) (G := g1) (k := 1) (s := s_SumBar) (x := "SumBar") (qual := "SumBar.__init__") (fs := ["other"]) T X Gn c (List.mem_of_getElem? (i := 6) rfl) (List.mem_of_getElem? (i := 19) rfl) rfl (by kernel_rfl) (fun _ _ _ _ _ _ us hl => match us, hl with | [_, _], _ => rfl) rfl
    (gok T X Gn (.cons (c_copied T X Gn c) .nil) .nil (by kernel_rfl) (by kernel_rfl) (by kernel_rfl)) ok_SumBar
  exact ⟨h1, h2 fun _ _ _ _ _ _ a us hl => match us, hl with | [_], _ => rfl⟩
theorem c_Squares (T : TabP tb K) (X : K.In base) (Gn : base.Ns mainGlobals mg) (c : SaysM chk fnl K) : CallG ⟨P, w, K, mg, base⟩ (wlOf K) 3 "Squares" (mkr g1 ("Squares", ["rows"])) ∧ CallR' ⟨P, w, K, mg, base⟩ (wlOf K) 3 "Squares" ["rows"] (mkr g1 ("Squares", ["rows"])) := by
  obtain ⟨h1, h2⟩ := call_cls (Nf := 0) (md := false) (md2 := false) (ps := ["self", "rows"]) (ks := ["rows"]) (G := g1) (k := 1) (s := s_Squares) (x := "Squares") (qual := "Squares.__init__") (fs := ["rows"]) T X Gn c (List.mem_of_getElem? (i := 7) rfl) (List.mem_of_getElem? (i := 20) rfl) rfl (by kernel_rfl) (fun _ _ _ _ _ _ us hl => match us, hl with | [_, _], _ => rfl) rfl
    (gok T X Gn (.cons (c_copied T X Gn c) .nil) .nil (by kernel_rfl) (by kernel_rfl) (by kernel_rfl)) ok_Squares
  exact ⟨h1, h2 fun _ _ _ _ _ _ a us hl => match us, hl with | [_], _ => rfl⟩
theorem c_SumLost (T : TabP tb K) (X : K.In base) (Gn : base.Ns mainGlobals mg) (c : SaysM chk fnl K) : CallG ⟨P, w, K, mg, base⟩ (wlOf K) 3 "SumLost" (mkr g1 ("SumLost", ["table", "other"])) ∧ CallR' ⟨P, w, K, mg, base⟩ (wlOf K) 3 "SumLost" ["other", "table"] (mkr g1 ("SumLost", ["table", "other"])) := by
  obtain ⟨h1, h2⟩ := call_cls (Nf := 0) (md := false) (md2 := false) (ps := ["self", "table", "other"]) (ks := ["other", "table"]) (G := g1) (k := 1) (s := s_SumLost) (x := "SumLost") (qual := "SumLost.__init__") (fs := ["table", "other"]) T X Gn c (List.mem_of_getElem? (i := 8) rfl) (List.mem_of_getElem? (i := 21) rfl) rfl (by kernel_rfl) (fun _ _ _ _ _ _ us hl => match us, hl with | [_, _, _], _ => rfl) rfl
    (gok T X Gn (.cons (c_copied T X Gn c) .nil) .nil (by kernel_rfl) (by kernel_rfl) (by kernel_rfl)) ok_SumLost
  exact ⟨h1, h2 fun _ _ _ _ _ _ a us hl => match us, hl with | [_, _], _ => rfl⟩
theorem c_Disagree (T : TabP tb K) (X : K.In base) (Gn : base.Ns mainGlobals mg) (c : SaysM chk fnl K) : CallG ⟨P, w, K, mg, base⟩ (wlOf K) 3 "Disagree" (mkr g1 ("Disagree", ["first", "second", "filling"])) ∧ CallR' ⟨P, w, K, mg, base⟩ (wlOf K) 3 "Disagree" ["filling", "second", "first"] (mkr g1 ("Disagree", ["first", "second", "filling"])) := by
  obtain ⟨h1, h2⟩ := call_cls (Nf := 0) (md := false) (md2 := false) (ps := ["self", "first", "second", "filling"]) (ks := ["filling", "second", "first"]) (G := g1) (k := 1) (s := s_Disagree) (x := "Disagree") (qual := "Disagree.__init__") (fs := ["first", "second", "filling"]) T X Gn c (List.mem_of_getElem? (i := 9) rfl) (List.mem_of_getElem? (i := 22) rfl) rfl (by kernel_rfl) (fun _ _ _ _ _ _ us hl => match us, hl with | [_, _, _, _], _ => rfl) rfl
    (gok T X Gn (.cons (c_copied T X Gn c) .nil) .nil (by kernel_rfl) (by kernel_rfl) (by kernel_rfl)) ok_Disagree
  exact ⟨h1, h2 fun _ _ _ _ _ _ a us hl => match us, hl with | [_, _, _], _ => rfl⟩
theorem c_Whole (T : TabP tb K) (X : K.In base) (Gn : base.Ns mainGlobals mg) (c : SaysM chk fnl K) : CallG ⟨P, w, K, mg, base⟩ (wlOf K) 3 "Whole" (mkr g1 ("Whole", ["row"])) ∧ CallR' ⟨P, w, K, mg, base⟩ (wlOf K) 3 "Whole" ["row"] (mkr g1 ("Whole", ["row"])) := by
  obtain ⟨h1, h2⟩ := call_cls (Nf := 0) (md := false) (md2 := false) (ps := ["self", "row"]) (ks := ["row"]) (G := g1) (k := 1) (s := s_Whole) (x := "Whole") (qual := "Whole.__init__") (fs := ["row"]) T X Gn c (List.mem_of_getElem? (i := 10) rfl) (List.mem_of_getElem? (i := 23) rfl) rfl (by kernel_rfl) (fun _ _ _ _ _ _ us hl => match us, hl with | [_, _], _ => rfl) rfl
    (gok T X Gn (.cons (c_copied T X Gn c) .nil) .nil (by kernel_rfl) (by kernel_rfl) (by kernel_rfl)) ok_Whole
  exact ⟨h1, h2 fun _ _ _ _ _ _ a us hl => match us, hl with | [_], _ => rfl⟩
theorem c_CountBar (T : TabP tb K) (X : K.In base) (Gn : base.Ns mainGlobals mg) (c : SaysM chk fnl K) : CallG ⟨P, w, K, mg, base⟩ (wlOf K) 3 "CountBar" (mkr g1 ("CountBar", ["weights"])) ∧ CallR' ⟨P, w, K, mg, base⟩ (wlOf K) 3 "CountBar" ["weights"] (mkr g1 ("CountBar", ["weights"])) := by
  obtain ⟨h1, h2⟩ := call_cls (Nf := 0) (md := false) (md2 := false) (ps := ["self", "weights"]) (ks := ["weights"]) (G := g1) (k := 1) (s := s_CountBar) (x := "CountBar") (qual := "CountBar.__init__") (fs := ["weights"]) T X Gn c (List.mem_of_getElem? (i := 11) rfl) (List.mem_of_getElem? (i := 24) rfl) rfl (by kernel_rfl) (fun _ _ _ _ _ _ us hl => match us, hl with | [_, _], _ => rfl) rfl
    (gok T X Gn (.cons (c_copied T X Gn c) .nil) .nil (by kernel_rfl) (by kernel_rfl) (by kernel_rfl)) ok_CountBar
  exact ⟨h1, h2 fun _ _ _ _ _ _ a us hl => match us, hl with | [_], _ => rfl⟩
theorem c_CountsLost (T : TabP tb K) (X : K.In base) (Gn : base.Ns mainGlobals mg) (c : SaysM chk fnl K) : CallG ⟨P, w, K, mg, base⟩ (wlOf K) 3 "CountsLost" (mkr g1 ("CountsLost", ["letters", "counts", "weights"])) ∧ CallR' ⟨P, w, K, mg, base⟩ (wlOf K) 3 "CountsLost" ["weights", "counts", "letters"] (mkr g1 ("CountsLost", ["letters", "counts", "weights"])) := by
  obtain ⟨h1, h2⟩ := call_cls (Nf := 0) (md := false) (md2 := false) (ps := ["self", "letters", "counts", "weights"]) (ks := ["weights", "counts", "letters"]) (G := g1) (k := 1) (s := s_CountsLost) (x := "CountsLost") (qual := "CountsLost.__init__") (fs := ["letters", "counts", "weights"]) T X Gn c (List.mem_of_getElem? (i := 12) rfl) (List.mem_of_getElem? (i := 25) rfl) rfl (by kernel_rfl) (fun _ _ _ _ _ _ us hl => match us, hl with | [_, _, _, _], _ => rfl) rfl
    (gok T X Gn (.cons (c_copied T X Gn c) .nil) .nil (by kernel_rfl) (by kernel_rfl) (by kernel_rfl)) ok_CountsLost
  exact ⟨h1, h2 fun _ _ _ _ _ _ a us hl => match us, hl with | [_, _, _], _ => rfl⟩
theorem c_FillLost (T : TabP tb K) (X : K.In base) (Gn : base.Ns mainGlobals mg) (c : SaysM chk fnl K) : CallG ⟨P, w, K, mg, base⟩ (wlOf K) 3 "FillLost" (mkr g1 ("FillLost", ["told", "bar"])) ∧ CallR' ⟨P, w, K, mg, base⟩ (wlOf K) 3 "FillLost" ["bar", "told"] (mkr g1 ("FillLost", ["told", "bar"])) := by
  obtain ⟨h1, h2⟩ := call_cls (Nf := 0) (md := false) (md2 := false) (ps := ["self", "told", "bar"]) (ks := ["bar", "told"]) (G := g1) (k := 1) (s := s_FillLost) (x := "FillLost") (qual := "FillLost.__init__") (fs := ["told", "bar"]) T X Gn c (List.mem_of_getElem? (i := 13) rfl) (List.mem_of_getElem? (i := 26) rfl) rfl (by kernel_rfl) (fun _ _ _ _ _ _ us hl => match us, hl with | [_, _, _], _ => rfl) rfl
    (gok T X Gn (.cons (c_copied T X Gn c) .nil) .nil (by kernel_rfl) (by kernel_rfl) (by kernel_rfl)) ok_FillLost
  exact ⟨h1, h2 fun _ _ _ _ _ _ a us hl => match us, hl with | [_, _], _ => rfl⟩
theorem c_PartingLoose (T : TabP tb K) (X : K.In base) (Gn : base.Ns mainGlobals mg) (c : SaysM chk fnl K) : CallG ⟨P, w, K, mg, base⟩ (wlOf K) 3 "PartingLoose" (mkr g1 ("PartingLoose", ["i", "j", "lot"])) ∧ CallR' ⟨P, w, K, mg, base⟩ (wlOf K) 3 "PartingLoose" ["lot", "j", "i"] (mkr g1 ("PartingLoose", ["i", "j", "lot"])) := by
  obtain ⟨h1, h2⟩ := call_cls (Nf := 0) (md := false) (md2 := false) (ps := ["self", "i", "j", "lot"]) (ks := ["lot", "j", "i"]) (G := g1) (k := 1) (s := s_PartingLoose) (x := "PartingLoose") (qual := "PartingLoose.__init__") (fs := ["i", "j", "lot"]) T X Gn c (List.mem_of_getElem? (i := 14) rfl) (List.mem_of_getElem? (i := 27) rfl) rfl (by kernel_rfl) (fun _ _ _ _ _ _ us hl => match us, hl with | [_, _, _, _], _ => rfl) rfl
    (gok T X Gn (.cons (c_copied T X Gn c) .nil) .nil (by kernel_rfl) (by kernel_rfl) (by kernel_rfl)) ok_PartingLoose
  exact ⟨h1, h2 fun _ _ _ _ _ _ a us hl => match us, hl with | [_, _, _], _ => rfl⟩
theorem c_Factors (T : TabP tb K) (X : K.In base) (Gn : base.Ns mainGlobals mg) (c : SaysM chk fnl K) : CallG ⟨P, w, K, mg, base⟩ (wlOf K) 3 "Factors" (mkr g1 ("Factors", ["lower", "turns"])) ∧ CallR' ⟨P, w, K, mg, base⟩ (wlOf K) 3 "Factors" ["turns", "lower"] (mkr g1 ("Factors", ["lower", "turns"])) := by
  obtain ⟨h1, h2⟩ := call_cls (Nf := 0) (md := false) (md2 := false) (ps := ["self", "lower", "turns"]) (ks := ["turns", "lower"]) (G := g1) (k := 1) (s := s_Factors) (x := "Factors") (qual := "Factors.__init__") (fs := ["lower", "turns"]) T X Gn c (List.mem_of_getElem? (i := 15) rfl) (List.mem_of_getElem? (i := 28) rfl) rfl (by kernel_rfl) (fun _ _ _ _ _ _ us hl => match us, hl with | [_, _, _], _ => rfl) rfl
    (gok T X Gn (.cons (c_copied T X Gn c) .nil) .nil (by kernel_rfl) (by kernel_rfl) (by kernel_rfl)) ok_Factors
  exact ⟨h1, h2 fun _ _ _ _ _ _ a us hl => match us, hl with | [_, _], _ => rfl⟩
theorem c_NotAbove (T : TabP tb K) (X : K.In base) (Gn : base.Ns mainGlobals mg) (c : SaysM chk fnl K) : CallG ⟨P, w, K, mg, base⟩ (wlOf K) 3 "NotAbove" (mkr g1 ("NotAbove", ["row"])) ∧ CallR' ⟨P, w, K, mg, base⟩ (wlOf K) 3 "NotAbove" ["row"] (mkr g1 ("NotAbove", ["row"])) := by
  obtain ⟨h1, h2⟩ := call_cls (Nf := 0) (md := false) (md2 := false) (ps := ["self", "row"]) (ks := ["row"]) (G := g1) (k := 1) (s := s_NotAbove) (x := "NotAbove") (qual := "NotAbove.__init__") (fs := ["row"]) T X Gn c (List.mem_of_getElem? (i := 16) rfl) (List.mem_of_getElem? (i := 29) rfl) rfl (by kernel_rfl) (fun _ _ _ _ _ _ us hl => match us, hl with | [_, _], _ => rfl) rfl
    (gok T X Gn (.cons (c_copied T X Gn c) .nil) .nil (by kernel_rfl) (by kernel_rfl) (by kernel_rfl)) ok_NotAbove
  exact ⟨h1, h2 fun _ _ _ _ _ _ a us hl => match us, hl with | [_], _ => rfl⟩
theorem c_SolvedEver (T : TabP tb K) (X : K.In base) (Gn : base.Ns mainGlobals mg) (c : SaysM chk fnl K) : CallG ⟨P, w, K, mg, base⟩ (wlOf K) 3 "SolvedEver" (mkr g1 ("SolvedEver", ["row"])) ∧ CallR' ⟨P, w, K, mg, base⟩ (wlOf K) 3 "SolvedEver" ["row"] (mkr g1 ("SolvedEver", ["row"])) := by
  obtain ⟨h1, h2⟩ := call_cls (Nf := 0) (md := false) (md2 := false) (ps := ["self", "row"]) (ks := ["row"]) (G := g1) (k := 1) (s := s_SolvedEver) (x := "SolvedEver") (qual := "SolvedEver.__init__") (fs := ["row"]) T X Gn c (List.mem_of_getElem? (i := 17) rfl) (List.mem_of_getElem? (i := 30) rfl) rfl (by kernel_rfl) (fun _ _ _ _ _ _ us hl => match us, hl with | [_, _], _ => rfl) rfl
    (gok T X Gn (.cons (c_copied T X Gn c) .nil) .nil (by kernel_rfl) (by kernel_rfl) (by kernel_rfl)) ok_SolvedEver
  exact ⟨h1, h2 fun _ _ _ _ _ _ a us hl => match us, hl with | [_], _ => rfl⟩
theorem c_NewEver (T : TabP tb K) (X : K.In base) (Gn : base.Ns mainGlobals mg) (c : SaysM chk fnl K) : CallG ⟨P, w, K, mg, base⟩ (wlOf K) 3 "NewEver" (mkr g1 ("NewEver", ["table"])) ∧ CallR' ⟨P, w, K, mg, base⟩ (wlOf K) 3 "NewEver" ["table"] (mkr g1 ("NewEver", ["table"])) := by
  obtain ⟨h1, h2⟩ := call_cls (Nf := 0) (md := false) (md2 := false) (ps := ["self", "table"]) (ks := ["table"]) (G := g1) (k := 1) (s := s_NewEver) (x := "NewEver") (qual := "NewEver.__init__") (fs := ["table"]) T X Gn c (List.mem_of_getElem? (i := 18) rfl) (List.mem_of_getElem? (i := 31) rfl) rfl (by kernel_rfl) (fun _ _ _ _ _ _ us hl => match us, hl with | [_, _], _ => rfl) rfl
    (gok T X Gn (.cons (c_copied T X Gn c) .nil) .nil (by kernel_rfl) (by kernel_rfl) (by kernel_rfl)) ok_NewEver
  exact ⟨h1, h2 fun _ _ _ _ _ _ a us hl => match us, hl with | [_], _ => rfl⟩
theorem c_LeastNew (T : TabP tb K) (X : K.In base) (Gn : base.Ns mainGlobals mg) (c : SaysM chk fnl K) : CallG ⟨P, w, K, mg, base⟩ (wlOf K) 3 "LeastNew" (mkr g1 ("LeastNew", ["row"])) ∧ CallR' ⟨P, w, K, mg, base⟩ (wlOf K) 3 "LeastNew" ["row"] (mkr g1 ("LeastNew", ["row"])) := by
  obtain ⟨h1, h2⟩ := call_cls (Nf := 0) (md := false) (md2 := false) (ps := ["self", "row"]) (ks := ["row"]) (G := g1) (k := 1) (s := s_LeastNew) (x := "LeastNew") (qual := "LeastNew.__init__") (fs := ["row"]) T X Gn c (List.mem_of_getElem? (i := 19) rfl) (List.mem_of_getElem? (i := 32) rfl) rfl (by kernel_rfl) (fun _ _ _ _ _ _ us hl => match us, hl with | [_, _], _ => rfl) rfl
    (gok T X Gn (.cons (c_copied T X Gn c) .nil) .nil (by kernel_rfl) (by kernel_rfl) (by kernel_rfl)) ok_LeastNew
  exact ⟨h1, h2 fun _ _ _ _ _ _ a us hl => match us, hl with | [_], _ => rfl⟩
theorem c_BagTree (T : TabP tb K) (X : K.In base) (Gn : base.Ns mainGlobals mg) (c : SaysM chk fnl K) : CallG ⟨P, w, K, mg, base⟩ (wlOf K) 3 "BagTree" (mkr g1 ("BagTree", ["bags", "links"])) ∧ CallR' ⟨P, w, K, mg, base⟩ (wlOf K) 3 "BagTree" ["links", "bags"] (mkr g1 ("BagTree", ["bags", "links"])) := by
  obtain ⟨h1, h2⟩ := call_cls (Nf := 0) (md := false) (md2 := false) (ps := ["self", "bags", "links"]) (ks := ["links", "bags"]) (G := g1) (k := 1) (s := s_BagTree) (x := "BagTree") (qual := "BagTree.__init__") (fs := ["bags", "links"]) T X Gn c (List.mem_of_getElem? (i := 20) rfl) (List.mem_of_getElem? (i := 33) rfl) rfl (by kernel_rfl) (fun _ _ _ _ _ _ us hl => match us, hl with | [_, _, _], _ => rfl) rfl
    (gok T X Gn (.cons (c_copied T X Gn c) .nil) .nil (by kernel_rfl) (by kernel_rfl) (by kernel_rfl)) ok_BagTree
  exact ⟨h1, h2 fun _ _ _ _ _ _ a us hl => match us, hl with | [_, _], _ => rfl⟩
theorem c_RingTables (T : TabP tb K) (X : K.In base) (Gn : base.Ns mainGlobals mg) (c : SaysM chk fnl K) : CallG ⟨P, w, K, mg, base⟩ (wlOf K) 3 "RingTables" (mkr g1 ("RingTables", ["told", "bars", "steps"])) ∧ CallR' ⟨P, w, K, mg, base⟩ (wlOf K) 3 "RingTables" ["steps", "bars", "told"] (mkr g1 ("RingTables", ["told", "bars", "steps"])) := by
  obtain ⟨h1, h2⟩ := call_cls (Nf := 0) (md := false) (md2 := false) (ps := ["self", "told", "bars", "steps"]) (ks := ["steps", "bars", "told"]) (G := g1) (k := 1) (s := s_RingTables) (x := "RingTables") (qual := "RingTables.__init__") (fs := ["told", "bars", "steps"]) T X Gn c (List.mem_of_getElem? (i := 21) rfl) (List.mem_of_getElem? (i := 34) rfl) rfl (by kernel_rfl) (fun _ _ _ _ _ _ us hl => match us, hl with | [_, _, _, _], _ => rfl) rfl
    (gok T X Gn (.cons (c_copied T X Gn c) .nil) .nil (by kernel_rfl) (by kernel_rfl) (by kernel_rfl)) ok_RingTables
  exact ⟨h1, h2 fun _ _ _ _ _ _ a us hl => match us, hl with | [_, _, _], _ => rfl⟩
theorem c_NewNumber (T : TabP tb K) (X : K.In base) (Gn : base.Ns mainGlobals mg) (c : SaysM chk fnl K) : CallG ⟨P, w, K, mg, base⟩ (wlOf K) 3 "NewNumber" (mkr g1 ("NewNumber", ["i", "j", "number"])) ∧ CallR' ⟨P, w, K, mg, base⟩ (wlOf K) 3 "NewNumber" ["number", "j", "i"] (mkr g1 ("NewNumber", ["i", "j", "number"])) := by
  obtain ⟨h1, h2⟩ := call_cls (Nf := 0) (md := false) (md2 := false) (ps := ["self", "i", "j", "number"]) (ks := ["number", "j", "i"]) (G := g1) (k := 1) (s := s_NewNumber) (x := "NewNumber") (qual := "NewNumber.__init__") (fs := ["i", "j", "number"]) T X Gn c (List.mem_of_getElem? (i := 22) rfl) (List.mem_of_getElem? (i := 35) rfl) rfl (by kernel_rfl) (fun _ _ _ _ _ _ us hl => match us, hl with | [_, _, _, _], _ => rfl) rfl
    (gok T X Gn (.cons (c_copied T X Gn c) .nil) .nil (by kernel_rfl) (by kernel_rfl) (by kernel_rfl)) ok_NewNumber
  exact ⟨h1, h2 fun _ _ _ _ _ _ a us hl => match us, hl with | [_, _, _], _ => rfl⟩
theorem c_RingCounts (T : TabP tb K) (X : K.In base) (Gn : base.Ns mainGlobals mg) (c : SaysM chk fnl K) : CallG ⟨P, w, K, mg, base⟩ (wlOf K) 3 "RingCounts" (mkr g1 ("RingCounts", ["letters", "counts", "weights"])) ∧ CallR' ⟨P, w, K, mg, base⟩ (wlOf K) 3 "RingCounts" ["weights", "counts", "letters"] (mkr g1 ("RingCounts", ["letters", "counts", "weights"])) := by
  obtain ⟨h1, h2⟩ := call_cls (Nf := 0) (md := false) (md2 := false) (ps := ["self", "letters", "counts", "weights"]) (ks := ["weights", "counts", "letters"]) (G := g1) (k := 1) (s := s_RingCounts) (x := "RingCounts") (qual := "RingCounts.__init__") (fs := ["letters", "counts", "weights"]) T X Gn c (List.mem_of_getElem? (i := 23) rfl) (List.mem_of_getElem? (i := 36) rfl) rfl (by kernel_rfl) (fun _ _ _ _ _ _ us hl => match us, hl with | [_, _, _, _], _ => rfl) rfl
    (gok T X Gn (.cons (c_copied T X Gn c) .nil) .nil (by kernel_rfl) (by kernel_rfl) (by kernel_rfl)) ok_RingCounts
  exact ⟨h1, h2 fun _ _ _ _ _ _ a us hl => match us, hl with | [_, _, _], _ => rfl⟩
theorem c_PartBreak (T : TabP tb K) (X : K.In base) (Gn : base.Ns mainGlobals mg) (c : SaysM chk fnl K) : CallG ⟨P, w, K, mg, base⟩ (wlOf K) 3 "PartBreak" (mkr g1 ("PartBreak", ["lot", "i", "j"])) ∧ CallR' ⟨P, w, K, mg, base⟩ (wlOf K) 3 "PartBreak" ["j", "i", "lot"] (mkr g1 ("PartBreak", ["lot", "i", "j"])) := by
  obtain ⟨h1, h2⟩ := call_cls (Nf := 0) (md := false) (md2 := false) (ps := ["self", "lot", "i", "j"]) (ks := ["j", "i", "lot"]) (G := g1) (k := 1) (s := s_PartBreak) (x := "PartBreak") (qual := "PartBreak.__init__") (fs := ["lot", "i", "j"]) T X Gn c (List.mem_of_getElem? (i := 24) rfl) (List.mem_of_getElem? (i := 37) rfl) rfl (by kernel_rfl) (fun _ _ _ _ _ _ us hl => match us, hl with | [_, _, _, _], _ => rfl) rfl
    (gok T X Gn (.cons (c_copied T X Gn c) .nil) .nil (by kernel_rfl) (by kernel_rfl) (by kernel_rfl)) ok_PartBreak
  exact ⟨h1, h2 fun _ _ _ _ _ _ a us hl => match us, hl with | [_, _, _], _ => rfl⟩
theorem c_Way (T : TabP tb K) (X : K.In base) (Gn : base.Ns mainGlobals mg) (c : SaysM chk fnl K) : CallG ⟨P, w, K, mg, base⟩ (wlOf K) 3 "Way" (mkr g1 ("Way", ["row"])) ∧ CallR' ⟨P, w, K, mg, base⟩ (wlOf K) 3 "Way" ["row"] (mkr g1 ("Way", ["row"])) := by
  obtain ⟨h1, h2⟩ := call_cls (Nf := 0) (md := false) (md2 := false) (ps := ["self", "row"]) (ks := ["row"]) (G := g1) (k := 1) (s := s_Way) (x := "Way") (qual := "Way.__init__") (fs := ["row"]) T X Gn c (List.mem_of_getElem? (i := 25) rfl) (List.mem_of_getElem? (i := 38) rfl) rfl (by kernel_rfl) (fun _ _ _ _ _ _ us hl => match us, hl with | [_, _], _ => rfl) rfl
    (gok T X Gn (.cons (c_copied T X Gn c) .nil) .nil (by kernel_rfl) (by kernel_rfl) (by kernel_rfl)) ok_Way
  exact ⟨h1, h2 fun _ _ _ _ _ _ a us hl => match us, hl with | [_], _ => rfl⟩
theorem c_Unheld (T : TabP tb K) (X : K.In base) (Gn : base.Ns mainGlobals mg) (c : SaysM chk fnl K) : CallG ⟨P, w, K, mg, base⟩ (wlOf K) 3 "Unheld" (mkr g1 ("Unheld", ["filling"])) ∧ CallR' ⟨P, w, K, mg, base⟩ (wlOf K) 3 "Unheld" ["filling"] (mkr g1 ("Unheld", ["filling"])) := by
  obtain ⟨h1, h2⟩ := call_cls (Nf := 0) (md := false) (md2 := false) (ps := ["self", "filling"]) (ks := ["filling"]) (G := g1) (k := 1) (s := s_Unheld) (x := "Unheld") (qual := "Unheld.__init__") (fs := ["filling"]) T X Gn c (List.mem_of_getElem? (i := 26) rfl) (List.mem_of_getElem? (i := 39) rfl) rfl (by kernel_rfl) (fun _ _ _ _ _ _ us hl => match us, hl with | [_, _], _ => rfl) rfl
    (gok T X Gn (.cons (c_copied T X Gn c) .nil) .nil (by kernel_rfl) (by kernel_rfl) (by kernel_rfl)) ok_Unheld
  exact ⟨h1, h2 fun _ _ _ _ _ _ a us hl => match us, hl with | [_], _ => rfl⟩
theorem c_Breaks (T : TabP tb K) (X : K.In base) (Gn : base.Ns mainGlobals mg) (c : SaysM chk fnl K) : CallG ⟨P, w, K, mg, base⟩ (wlOf K) 3 "Breaks" (mkr g1 ("Breaks", ["one", "other", "given", "filling"])) ∧ CallR' ⟨P, w, K, mg, base⟩ (wlOf K) 3 "Breaks" ["filling", "given", "other", "one"] (mkr g1 ("Breaks", ["one", "other", "given", "filling"])) := by
  obtain ⟨h1, h2⟩ := call_cls (Nf := 0) (md := false) (md2 := false) (ps := ["self", "one", "other", "given", "filling"]) (ks := ["filling", "given", "other", "one"]) (G := g1) (k := 1) (s := s_Breaks) (x := "Breaks") (qual := "Breaks.__init__") (fs := ["one", "other", "given", "filling"]) T X Gn c (List.mem_of_getElem? (i := 27) rfl) (List.mem_of_getElem? (i := 40) rfl) rfl (by kernel_rfl) (fun _ _ _ _ _ _ us hl => match us, hl with | [_, _, _, _, _], _ => rfl) rfl
    (gok T X Gn (.cons (c_copied T X Gn c) .nil) .nil (by kernel_rfl) (by kernel_rfl) (by kernel_rfl)) ok_Breaks
  exact ⟨h1, h2 fun _ _ _ _ _ _ a us hl => match us, hl with | [_, _, _, _], _ => rfl⟩
theorem c_FreeLot (T : TabP tb K) (X : K.In base) (Gn : base.Ns mainGlobals mg) (c : SaysM chk fnl K) : CallG ⟨P, w, K, mg, base⟩ (wlOf K) 3 "FreeLot" (mkr g1 ("FreeLot", ["lot", "covers"])) ∧ CallR' ⟨P, w, K, mg, base⟩ (wlOf K) 3 "FreeLot" ["covers", "lot"] (mkr g1 ("FreeLot", ["lot", "covers"])) := by
  obtain ⟨h1, h2⟩ := call_cls (Nf := 0) (md := false) (md2 := false) (ps := ["self", "lot", "covers"]) (ks := ["covers", "lot"]) (G := g1) (k := 1) (s := s_FreeLot) (x := "FreeLot") (qual := "FreeLot.__init__") (fs := ["lot", "covers"]) T X Gn c (List.mem_of_getElem? (i := 28) rfl) (List.mem_of_getElem? (i := 41) rfl) rfl (by kernel_rfl) (fun _ _ _ _ _ _ us hl => match us, hl with | [_, _, _], _ => rfl) rfl
    (gok T X Gn (.cons (c_copied T X Gn c) .nil) .nil (by kernel_rfl) (by kernel_rfl) (by kernel_rfl)) ok_FreeLot
  exact ⟨h1, h2 fun _ _ _ _ _ _ a us hl => match us, hl with | [_, _], _ => rfl⟩
theorem c_TiedCover (T : TabP tb K) (X : K.In base) (Gn : base.Ns mainGlobals mg) (c : SaysM chk fnl K) : CallG ⟨P, w, K, mg, base⟩ (wlOf K) 3 "TiedCover" (mkr g1 ("TiedCover", ["lots", "lot"])) ∧ CallR' ⟨P, w, K, mg, base⟩ (wlOf K) 3 "TiedCover" ["lot", "lots"] (mkr g1 ("TiedCover", ["lots", "lot"])) := by
  obtain ⟨h1, h2⟩ := call_cls (Nf := 0) (md := false) (md2 := false) (ps := ["self", "lots", "lot"]) (ks := ["lot", "lots"]) (G := g1) (k := 1) (s := s_TiedCover) (x := "TiedCover") (qual := "TiedCover.__init__") (fs := ["lots", "lot"]) T X Gn c (List.mem_of_getElem? (i := 29) rfl) (List.mem_of_getElem? (i := 42) rfl) rfl (by kernel_rfl) (fun _ _ _ _ _ _ us hl => match us, hl with | [_, _, _], _ => rfl) rfl
    (gok T X Gn (.cons (c_copied T X Gn c) .nil) .nil (by kernel_rfl) (by kernel_rfl) (by kernel_rfl)) ok_TiedCover
  exact ⟨h1, h2 fun _ _ _ _ _ _ a us hl => match us, hl with | [_, _], _ => rfl⟩
theorem c_CornerLow (T : TabP tb K) (X : K.In base) (Gn : base.Ns mainGlobals mg) (c : SaysM chk fnl K) : CallG ⟨P, w, K, mg, base⟩ (wlOf K) 3 "CornerLow" (mkr g1 ("CornerLow", ["lot", "row"])) ∧ CallR' ⟨P, w, K, mg, base⟩ (wlOf K) 3 "CornerLow" ["row", "lot"] (mkr g1 ("CornerLow", ["lot", "row"])) := by
  obtain ⟨h1, h2⟩ := call_cls (Nf := 0) (md := false) (md2 := false) (ps := ["self", "lot", "row"]) (ks := ["row", "lot"]) (G := g1) (k := 1) (s := s_CornerLow) (x := "CornerLow") (qual := "CornerLow.__init__") (fs := ["lot", "row"]) T X Gn c (List.mem_of_getElem? (i := 30) rfl) (List.mem_of_getElem? (i := 43) rfl) rfl (by kernel_rfl) (fun _ _ _ _ _ _ us hl => match us, hl with | [_, _, _], _ => rfl) rfl
    (gok T X Gn (.cons (c_copied T X Gn c) .nil) .nil (by kernel_rfl) (by kernel_rfl) (by kernel_rfl)) ok_CornerLow
  exact ⟨h1, h2 fun _ _ _ _ _ _ a us hl => match us, hl with | [_, _], _ => rfl⟩
theorem c_Strong (T : TabP tb K) (X : K.In base) (Gn : base.Ns mainGlobals mg) (c : SaysM chk fnl K) : CallG ⟨P, w, K, mg, base⟩ (wlOf K) 3 "Strong" (mkr g1 ("Strong", ["row"])) ∧ CallR' ⟨P, w, K, mg, base⟩ (wlOf K) 3 "Strong" ["row"] (mkr g1 ("Strong", ["row"])) := by
  obtain ⟨h1, h2⟩ := call_cls (Nf := 0) (md := false) (md2 := false) (ps := ["self", "row"]) (ks := ["row"]) (G := g1) (k := 1) (s := s_Strong) (x := "Strong") (qual := "Strong.__init__") (fs := ["row"]) T X Gn c (List.mem_of_getElem? (i := 31) rfl) (List.mem_of_getElem? (i := 44) rfl) rfl (by kernel_rfl) (fun _ _ _ _ _ _ us hl => match us, hl with | [_, _], _ => rfl) rfl
    (gok T X Gn (.cons (c_copied T X Gn c) .nil) .nil (by kernel_rfl) (by kernel_rfl) (by kernel_rfl)) ok_Strong
  exact ⟨h1, h2 fun _ _ _ _ _ _ a us hl => match us, hl with | [_], _ => rfl⟩
theorem c_Sun (T : TabP tb K) (X : K.In base) (Gn : base.Ns mainGlobals mg) (c : SaysM chk fnl K) : CallG ⟨P, w, K, mg, base⟩ (wlOf K) 3 "Sun" (mkr g1 ("Sun", ["inner", "outer"])) ∧ CallR' ⟨P, w, K, mg, base⟩ (wlOf K) 3 "Sun" ["outer", "inner"] (mkr g1 ("Sun", ["inner", "outer"])) := by
  obtain ⟨h1, h2⟩ := call_cls (Nf := 0) (md := false) (md2 := false) (ps := ["self", "inner", "outer"]) (ks := ["outer", "inner"]) (G := g1) (k := 1) (s := s_Sun) (x := "Sun") (qual := "Sun.__init__") (fs := ["inner", "outer"]) T X Gn c (List.mem_of_getElem? (i := 32) rfl) (List.mem_of_getElem? (i := 45) rfl) rfl (by kernel_rfl) (fun _ _ _ _ _ _ us hl => match us, hl with | [_, _, _], _ => rfl) rfl
    (gok T X Gn (.cons (c_copied T X Gn c) .nil) .nil (by kernel_rfl) (by kernel_rfl) (by kernel_rfl)) ok_Sun
  exact ⟨h1, h2 fun _ _ _ _ _ _ a us hl => match us, hl with | [_, _], _ => rfl⟩
theorem c_Unbalanced (T : TabP tb K) (X : K.In base) (Gn : base.Ns mainGlobals mg) (c : SaysM chk fnl K) : CallG ⟨P, w, K, mg, base⟩ (wlOf K) 3 "Unbalanced" (mkr g1 ("Unbalanced", ["rows", "columns"])) ∧ CallR' ⟨P, w, K, mg, base⟩ (wlOf K) 3 "Unbalanced" ["columns", "rows"] (mkr g1 ("Unbalanced", ["rows", "columns"])) := by
  obtain ⟨h1, h2⟩ := call_cls (Nf := 0) (md := false) (md2 := false) (ps := ["self", "rows", "columns"]) (ks := ["columns", "rows"]) (G := g1) (k := 1) (s := s_Unbalanced) (x := "Unbalanced") (qual := "Unbalanced.__init__") (fs := ["rows", "columns"]) T X Gn c (List.mem_of_getElem? (i := 33) rfl) (List.mem_of_getElem? (i := 46) rfl) rfl (by kernel_rfl) (fun _ _ _ _ _ _ us hl => match us, hl with | [_, _, _], _ => rfl) rfl
    (gok T X Gn (.cons (c_copied T X Gn c) .nil) .nil (by kernel_rfl) (by kernel_rfl) (by kernel_rfl)) ok_Unbalanced
  exact ⟨h1, h2 fun _ _ _ _ _ _ a us hl => match us, hl with | [_, _], _ => rfl⟩
theorem c_Cover (T : TabP tb K) (X : K.In base) (Gn : base.Ns mainGlobals mg) (c : SaysM chk fnl K) : CallG ⟨P, w, K, mg, base⟩ (wlOf K) 3 "Cover" (mkr g1 ("Cover", ["lot", "amounts"])) ∧ CallR' ⟨P, w, K, mg, base⟩ (wlOf K) 3 "Cover" ["amounts", "lot"] (mkr g1 ("Cover", ["lot", "amounts"])) := by
  obtain ⟨h1, h2⟩ := call_cls (Nf := 0) (md := false) (md2 := false) (ps := ["self", "lot", "amounts"]) (ks := ["amounts", "lot"]) (G := g1) (k := 1) (s := s_Cover) (x := "Cover") (qual := "Cover.__init__") (fs := ["lot", "amounts"]) T X Gn c (List.mem_of_getElem? (i := 34) rfl) (List.mem_of_getElem? (i := 47) rfl) rfl (by kernel_rfl) (fun _ _ _ _ _ _ us hl => match us, hl with | [_, _, _], _ => rfl) rfl
    (gok T X Gn (.cons (c_copied T X Gn c) .nil) .nil (by kernel_rfl) (by kernel_rfl) (by kernel_rfl)) ok_Cover
  exact ⟨h1, h2 fun _ _ _ _ _ _ a us hl => match us, hl with | [_, _], _ => rfl⟩
theorem c_CoverGap (T : TabP tb K) (X : K.In base) (Gn : base.Ns mainGlobals mg) (c : SaysM chk fnl K) : CallG ⟨P, w, K, mg, base⟩ (wlOf K) 3 "CoverGap" (mkr g1 ("CoverGap", ["shares", "amounts"])) ∧ CallR' ⟨P, w, K, mg, base⟩ (wlOf K) 3 "CoverGap" ["amounts", "shares"] (mkr g1 ("CoverGap", ["shares", "amounts"])) := by
  obtain ⟨h1, h2⟩ := call_cls (Nf := 0) (md := false) (md2 := false) (ps := ["self", "shares", "amounts"]) (ks := ["amounts", "shares"]) (G := g1) (k := 1) (s := s_CoverGap) (x := "CoverGap") (qual := "CoverGap.__init__") (fs := ["shares", "amounts"]) T X Gn c (List.mem_of_getElem? (i := 35) rfl) (List.mem_of_getElem? (i := 48) rfl) rfl (by kernel_rfl) (fun _ _ _ _ _ _ us hl => match us, hl with | [_, _, _], _ => rfl) rfl
    (gok T X Gn (.cons (c_copied T X Gn c) .nil) .nil (by kernel_rfl) (by kernel_rfl) (by kernel_rfl)) ok_CoverGap
  exact ⟨h1, h2 fun _ _ _ _ _ _ a us hl => match us, hl with | [_, _], _ => rfl⟩
theorem c_BagFactors (T : TabP tb K) (X : K.In base) (Gn : base.Ns mainGlobals mg) (c : SaysM chk fnl K) : CallG ⟨P, w, K, mg, base⟩ (wlOf K) 3 "BagFactors" (mkr g1 ("BagFactors", ["tables"])) ∧ CallR' ⟨P, w, K, mg, base⟩ (wlOf K) 3 "BagFactors" ["tables"] (mkr g1 ("BagFactors", ["tables"])) := by
  obtain ⟨h1, h2⟩ := call_cls (Nf := 0) (md := false) (md2 := false) (ps := ["self", "tables"]) (ks := ["tables"]) (G := g1) (k := 1) (s := s_BagFactors) (x := "BagFactors") (qual := "BagFactors.__init__") (fs := ["tables"]) T X Gn c (List.mem_of_getElem? (i := 36) rfl) (List.mem_of_getElem? (i := 49) rfl) rfl (by kernel_rfl) (fun _ _ _ _ _ _ us hl => match us, hl with | [_, _], _ => rfl) rfl
    (gok T X Gn (.cons (c_copied T X Gn c) .nil) .nil (by kernel_rfl) (by kernel_rfl) (by kernel_rfl)) ok_BagFactors
  exact ⟨h1, h2 fun _ _ _ _ _ _ a us hl => match us, hl with | [_], _ => rfl⟩
theorem c_NoFactors (T : TabP tb K) (X : K.In base) (Gn : base.Ns mainGlobals mg) (c : SaysM chk fnl K) : CallG ⟨P, w, K, mg, base⟩ (wlOf K) 3 "NoFactors" (mkr g1 ("NoFactors", ["i", "j", "filling"])) ∧ CallR' ⟨P, w, K, mg, base⟩ (wlOf K) 3 "NoFactors" ["filling", "j", "i"] (mkr g1 ("NoFactors", ["i", "j", "filling"])) := by
  obtain ⟨h1, h2⟩ := call_cls (Nf := 0) (md := false) (md2 := false) (ps := ["self", "i", "j", "filling"]) (ks := ["filling", "j", "i"]) (G := g1) (k := 1) (s := s_NoFactors) (x := "NoFactors") (qual := "NoFactors.__init__") (fs := ["i", "j", "filling"]) T X Gn c (List.mem_of_getElem? (i := 37) rfl) (List.mem_of_getElem? (i := 50) rfl) rfl (by kernel_rfl) (fun _ _ _ _ _ _ us hl => match us, hl with | [_, _, _, _], _ => rfl) rfl
    (gok T X Gn (.cons (c_copied T X Gn c) .nil) .nil (by kernel_rfl) (by kernel_rfl) (by kernel_rfl)) ok_NoFactors
  exact ⟨h1, h2 fun _ _ _ _ _ _ a us hl => match us, hl with | [_, _, _], _ => rfl⟩
theorem c_UnlikeTwo (T : TabP tb K) (X : K.In base) (Gn : base.Ns mainGlobals mg) (c : SaysM chk fnl K) : CallG ⟨P, w, K, mg, base⟩ (wlOf K) 3 "UnlikeTwo" (mkr g1 ("UnlikeTwo", ["one", "other", "row"])) ∧ CallR' ⟨P, w, K, mg, base⟩ (wlOf K) 3 "UnlikeTwo" ["row", "other", "one"] (mkr g1 ("UnlikeTwo", ["one", "other", "row"])) := by
  obtain ⟨h1, h2⟩ := call_cls (Nf := 0) (md := false) (md2 := false) (ps := ["self", "one", "other", "row"]) (ks := ["row", "other", "one"]) (G := g1) (k := 1) (s := s_UnlikeTwo) (x := "UnlikeTwo") (qual := "UnlikeTwo.__init__") (fs := ["one", "other", "row"]) T X Gn c (List.mem_of_getElem? (i := 38) rfl) (List.mem_of_getElem? (i := 51) rfl) rfl (by kernel_rfl) (fun _ _ _ _ _ _ us hl => match us, hl with | [_, _, _, _], _ => rfl) rfl
    (gok T X Gn (.cons (c_copied T X Gn c) .nil) .nil (by kernel_rfl) (by kernel_rfl) (by kernel_rfl)) ok_UnlikeTwo
  exact ⟨h1, h2 fun _ _ _ _ _ _ a us hl => match us, hl with | [_, _, _], _ => rfl⟩
theorem c_Hanging (T : TabP tb K) (X : K.In base) (Gn : base.Ns mainGlobals mg) (c : SaysM chk fnl K) : CallG ⟨P, w, K, mg, base⟩ (wlOf K) 3 "Hanging" (mkr g1 ("Hanging", ["one", "row"])) ∧ CallR' ⟨P, w, K, mg, base⟩ (wlOf K) 3 "Hanging" ["row", "one"] (mkr g1 ("Hanging", ["one", "row"])) := by
  obtain ⟨h1, h2⟩ := call_cls (Nf := 0) (md := false) (md2 := false) (ps := ["self", "one", "row"]) (ks := ["row", "one"]) (G := g1) (k := 1) (s := s_Hanging) (x := "Hanging") (qual := "Hanging.__init__") (fs := ["one", "row"]) T X Gn c (List.mem_of_getElem? (i := 39) rfl) (List.mem_of_getElem? (i := 52) rfl) rfl (by kernel_rfl) (fun _ _ _ _ _ _ us hl => match us, hl with | [_, _, _], _ => rfl) rfl
    (gok T X Gn (.cons (c_copied T X Gn c) .nil) .nil (by kernel_rfl) (by kernel_rfl) (by kernel_rfl)) ok_Hanging
  exact ⟨h1, h2 fun _ _ _ _ _ _ a us hl => match us, hl with | [_, _], _ => rfl⟩
theorem c_Folds (T : TabP tb K) (X : K.In base) (Gn : base.Ns mainGlobals mg) (c : SaysM chk fnl K) : CallG ⟨P, w, K, mg, base⟩ (wlOf K) 3 "Folds" (mkr g1 ("Folds", ["steps"])) ∧ CallR' ⟨P, w, K, mg, base⟩ (wlOf K) 3 "Folds" ["steps"] (mkr g1 ("Folds", ["steps"])) := by
  obtain ⟨h1, h2⟩ := call_cls (Nf := 0) (md := false) (md2 := false) (ps := ["self", "steps"]) (ks := ["steps"]) (G := g1) (k := 1) (s := s_Folds) (x := "Folds") (qual := "Folds.__init__") (fs := ["steps"]) T X Gn c (List.mem_of_getElem? (i := 40) rfl) (List.mem_of_getElem? (i := 53) rfl) rfl (by kernel_rfl) (fun _ _ _ _ _ _ us hl => match us, hl with | [_, _], _ => rfl) rfl
    (gok T X Gn (.cons (c_copied T X Gn c) .nil) .nil (by kernel_rfl) (by kernel_rfl) (by kernel_rfl)) ok_Folds
  exact ⟨h1, h2 fun _ _ _ _ _ _ a us hl => match us, hl with | [_], _ => rfl⟩
theorem c_Knot (T : TabP tb K) (X : K.In base) (Gn : base.Ns mainGlobals mg) (c : SaysM chk fnl K) : CallG ⟨P, w, K, mg, base⟩ (wlOf K) 3 "Knot" (mkr g1 ("Knot", ["kind", "row"])) ∧ CallR' ⟨P, w, K, mg, base⟩ (wlOf K) 3 "Knot" ["row", "kind"] (mkr g1 ("Knot", ["kind", "row"])) := by
  obtain ⟨h1, h2⟩ := call_cls (Nf := 0) (md := false) (md2 := false) (ps := ["self", "kind", "row"]) (ks := ["row", "kind"]) (G := g1) (k := 1) (s := s_Knot) (x := "Knot") (qual := "Knot.__init__") (fs := ["kind", "row"]) T X Gn c (List.mem_of_getElem? (i := 41) rfl) (List.mem_of_getElem? (i := 54) rfl) rfl (by kernel_rfl) (fun _ _ _ _ _ _ us hl => match us, hl with | [_, _, _], _ => rfl) rfl
    (gok T X Gn (.cons (c_copied T X Gn c) .nil) .nil (by kernel_rfl) (by kernel_rfl) (by kernel_rfl)) ok_Knot
  exact ⟨h1, h2 fun _ _ _ _ _ _ a us hl => match us, hl with | [_, _], _ => rfl⟩
theorem c_Signed (T : TabP tb K) (X : K.In base) (Gn : base.Ns mainGlobals mg) (c : SaysM chk fnl K) : CallG ⟨P, w, K, mg, base⟩ (wlOf K) 3 "Signed" (mkr g1 ("Signed", ["rows"])) ∧ CallR' ⟨P, w, K, mg, base⟩ (wlOf K) 3 "Signed" ["rows"] (mkr g1 ("Signed", ["rows"])) := by
  obtain ⟨h1, h2⟩ := call_cls (Nf := 0) (md := false) (md2 := false) (ps := ["self", "rows"]) (ks := ["rows"]) (G := g1) (k := 1) (s := s_Signed) (x := "Signed") (qual := "Signed.__init__") (fs := ["rows"]) T X Gn c (List.mem_of_getElem? (i := 42) rfl) (List.mem_of_getElem? (i := 55) rfl) rfl (by kernel_rfl) (fun _ _ _ _ _ _ us hl => match us, hl with | [_, _], _ => rfl) rfl
    (gok T X Gn (.cons (c_copied T X Gn c) .nil) .nil (by kernel_rfl) (by kernel_rfl) (by kernel_rfl)) ok_Signed
  exact ⟨h1, h2 fun _ _ _ _ _ _ a us hl => match us, hl with | [_], _ => rfl⟩
theorem c_Hued (T : TabP tb K) (X : K.In base) (Gn : base.Ns mainGlobals mg) (c : SaysM chk fnl K) : CallG ⟨P, w, K, mg, base⟩ (wlOf K) 3 "Hued" (mkr g1 ("Hued", ["row", "lot"])) ∧ CallR' ⟨P, w, K, mg, base⟩ (wlOf K) 3 "Hued" ["lot", "row"] (mkr g1 ("Hued", ["row", "lot"])) := by
  obtain ⟨h1, h2⟩ := call_cls (Nf := 0) (md := false) (md2 := false) (ps := ["self", "row", "lot"]) (ks := ["lot", "row"]) (G := g1) (k := 1) (s := s_Hued) (x := "Hued") (qual := "Hued.__init__") (fs := ["row", "lot"]) T X Gn c (List.mem_of_getElem? (i := 43) rfl) (List.mem_of_getElem? (i := 56) rfl) rfl (by kernel_rfl) (fun _ _ _ _ _ _ us hl => match us, hl with | [_, _, _], _ => rfl) rfl
    (gok T X Gn (.cons (c_copied T X Gn c) .nil) .nil (by kernel_rfl) (by kernel_rfl) (by kernel_rfl)) ok_Hued
  exact ⟨h1, h2 fun _ _ _ _ _ _ a us hl => match us, hl with | [_, _], _ => rfl⟩
theorem c_BagRow (T : TabP tb K) (X : K.In base) (Gn : base.Ns mainGlobals mg) (c : SaysM chk fnl K) : CallG ⟨P, w, K, mg, base⟩ (wlOf K) 3 "BagRow" (mkr g1 ("BagRow", ["bags"])) ∧ CallR' ⟨P, w, K, mg, base⟩ (wlOf K) 3 "BagRow" ["bags"] (mkr g1 ("BagRow", ["bags"])) := by
  obtain ⟨h1, h2⟩ := call_cls (Nf := 0) (md := false) (md2 := false) (ps := ["self", "bags"]) (ks := ["bags"]) (G := g1) (k := 1) (s := s_BagRow) (x := "BagRow") (qual := "BagRow.__init__") (fs := ["bags"]) T X Gn c (List.mem_of_getElem? (i := 44) rfl) (List.mem_of_getElem? (i := 57) rfl) rfl (by kernel_rfl) (fun _ _ _ _ _ _ us hl => match us, hl with | [_, _], _ => rfl) rfl
    (gok T X Gn (.cons (c_copied T X Gn c) .nil) .nil (by kernel_rfl) (by kernel_rfl) (by kernel_rfl)) ok_BagRow
  exact ⟨h1, h2 fun _ _ _ _ _ _ a us hl => match us, hl with | [_], _ => rfl⟩
theorem c_FarThree (T : TabP tb K) (X : K.In base) (Gn : base.Ns mainGlobals mg) (c : SaysM chk fnl K) : CallG ⟨P, w, K, mg, base⟩ (wlOf K) 3 "FarThree" (mkr g1 ("FarThree", ["places", "ways"])) ∧ CallR' ⟨P, w, K, mg, base⟩ (wlOf K) 3 "FarThree" ["ways", "places"] (mkr g1 ("FarThree", ["places", "ways"])) := by
  obtain ⟨h1, h2⟩ := call_cls (Nf := 0) (md := false) (md2 := false) (ps := ["self", "places", "ways"]) (ks := ["ways", "places"]) (G := g1) (k := 1) (s := s_FarThree) (x := "FarThree") (qual := "FarThree.__init__") (fs := ["places", "ways"]) T X Gn c (List.mem_of_getElem? (i := 45) rfl) (List.mem_of_getElem? (i := 58) rfl) rfl (by kernel_rfl) (fun _ _ _ _ _ _ us hl => match us, hl with | [_, _, _], _ => rfl) rfl
    (gok T X Gn (.cons (c_copied T X Gn c) .nil) .nil (by kernel_rfl) (by kernel_rfl) (by kernel_rfl)) ok_FarThree
  exact ⟨h1, h2 fun _ _ _ _ _ _ a us hl => match us, hl with | [_, _], _ => rfl⟩
theorem c_Stretches (T : TabP tb K) (X : K.In base) (Gn : base.Ns mainGlobals mg) (c : SaysM chk fnl K) : CallG ⟨P, w, K, mg, base⟩ (wlOf K) 3 "Stretches" (mkr g1 ("Stretches", ["rows"])) ∧ CallR' ⟨P, w, K, mg, base⟩ (wlOf K) 3 "Stretches" ["rows"] (mkr g1 ("Stretches", ["rows"])) := by
  obtain ⟨h1, h2⟩ := call_cls (Nf := 0) (md := false) (md2 := false) (ps := ["self", "rows"]) (ks := ["rows"]) (G := g1) (k := 1) (s := s_Stretches) (x := "Stretches") (qual := "Stretches.__init__") (fs := ["rows"]) T X Gn c (List.mem_of_getElem? (i := 46) rfl) (List.mem_of_getElem? (i := 59) rfl) rfl (by kernel_rfl) (fun _ _ _ _ _ _ us hl => match us, hl with | [_, _], _ => rfl) rfl
    (gok T X Gn (.cons (c_copied T X Gn c) .nil) .nil (by kernel_rfl) (by kernel_rfl) (by kernel_rfl)) ok_Stretches
  exact ⟨h1, h2 fun _ _ _ _ _ _ a us hl => match us, hl with | [_], _ => rfl⟩
theorem c_OddHole (T : TabP tb K) (X : K.In base) (Gn : base.Ns mainGlobals mg) (c : SaysM chk fnl K) : CallG ⟨P, w, K, mg, base⟩ (wlOf K) 3 "OddHole" (mkr g1 ("OddHole", ["row"])) ∧ CallR' ⟨P, w, K, mg, base⟩ (wlOf K) 3 "OddHole" ["row"] (mkr g1 ("OddHole", ["row"])) := by
  obtain ⟨h1, h2⟩ := call_cls (Nf := 0) (md := false) (md2 := false) (ps := ["self", "row"]) (ks := ["row"]) (G := g1) (k := 1) (s := s_OddHole) (x := "OddHole") (qual := "OddHole.__init__") (fs := ["row"]) T X Gn c (List.mem_of_getElem? (i := 47) rfl) (List.mem_of_getElem? (i := 60) rfl) rfl (by kernel_rfl) (fun _ _ _ _ _ _ us hl => match us, hl with | [_, _], _ => rfl) rfl
    (gok T X Gn (.cons (c_copied T X Gn c) .nil) .nil (by kernel_rfl) (by kernel_rfl) (by kernel_rfl)) ok_OddHole
  exact ⟨h1, h2 fun _ _ _ _ _ _ a us hl => match us, hl with | [_], _ => rfl⟩
theorem c_OddAntihole (T : TabP tb K) (X : K.In base) (Gn : base.Ns mainGlobals mg) (c : SaysM chk fnl K) : CallG ⟨P, w, K, mg, base⟩ (wlOf K) 3 "OddAntihole" (mkr g1 ("OddAntihole", ["row"])) ∧ CallR' ⟨P, w, K, mg, base⟩ (wlOf K) 3 "OddAntihole" ["row"] (mkr g1 ("OddAntihole", ["row"])) := by
  obtain ⟨h1, h2⟩ := call_cls (Nf := 0) (md := false) (md2 := false) (ps := ["self", "row"]) (ks := ["row"]) (G := g1) (k := 1) (s := s_OddAntihole) (x := "OddAntihole") (qual := "OddAntihole.__init__") (fs := ["row"]) T X Gn c (List.mem_of_getElem? (i := 48) rfl) (List.mem_of_getElem? (i := 61) rfl) rfl (by kernel_rfl) (fun _ _ _ _ _ _ us hl => match us, hl with | [_, _], _ => rfl) rfl
    (gok T X Gn (.cons (c_copied T X Gn c) .nil) .nil (by kernel_rfl) (by kernel_rfl) (by kernel_rfl)) ok_OddAntihole
  exact ⟨h1, h2 fun _ _ _ _ _ _ a us hl => match us, hl with | [_], _ => rfl⟩
theorem c_NarrowTree (T : TabP tb K) (X : K.In base) (Gn : base.Ns mainGlobals mg) (c : SaysM chk fnl K) : CallG ⟨P, w, K, mg, base⟩ (wlOf K) 3 "NarrowTree" (mkr g1 ("NarrowTree", ["bags", "links"])) ∧ CallR' ⟨P, w, K, mg, base⟩ (wlOf K) 3 "NarrowTree" ["links", "bags"] (mkr g1 ("NarrowTree", ["bags", "links"])) := by
  obtain ⟨h1, h2⟩ := call_cls (Nf := 0) (md := false) (md2 := false) (ps := ["self", "bags", "links"]) (ks := ["links", "bags"]) (G := g1) (k := 1) (s := s_NarrowTree) (x := "NarrowTree") (qual := "NarrowTree.__init__") (fs := ["bags", "links"]) T X Gn c (List.mem_of_getElem? (i := 49) rfl) (List.mem_of_getElem? (i := 62) rfl) rfl (by kernel_rfl) (fun _ _ _ _ _ _ us hl => match us, hl with | [_, _, _], _ => rfl) rfl
    (gok T X Gn (.cons (c_copied T X Gn c) .nil) .nil (by kernel_rfl) (by kernel_rfl) (by kernel_rfl)) ok_NarrowTree
  exact ⟨h1, h2 fun _ _ _ _ _ _ a us hl => match us, hl with | [_, _], _ => rfl⟩
theorem c_Crowds (T : TabP tb K) (X : K.In base) (Gn : base.Ns mainGlobals mg) (c : SaysM chk fnl K) : CallG ⟨P, w, K, mg, base⟩ (wlOf K) 3 "Crowds" (mkr g1 ("Crowds", ["lots"])) ∧ CallR' ⟨P, w, K, mg, base⟩ (wlOf K) 3 "Crowds" ["lots"] (mkr g1 ("Crowds", ["lots"])) := by
  obtain ⟨h1, h2⟩ := call_cls (Nf := 0) (md := false) (md2 := false) (ps := ["self", "lots"]) (ks := ["lots"]) (G := g1) (k := 1) (s := s_Crowds) (x := "Crowds") (qual := "Crowds.__init__") (fs := ["lots"]) T X Gn c (List.mem_of_getElem? (i := 50) rfl) (List.mem_of_getElem? (i := 63) rfl) rfl (by kernel_rfl) (fun _ _ _ _ _ _ us hl => match us, hl with | [_, _], _ => rfl) rfl
    (gok T X Gn (.cons (c_copied T X Gn c) .nil) .nil (by kernel_rfl) (by kernel_rfl) (by kernel_rfl)) ok_Crowds
  exact ⟨h1, h2 fun _ _ _ _ _ _ a us hl => match us, hl with | [_], _ => rfl⟩
theorem c_PathBags (T : TabP tb K) (X : K.In base) (Gn : base.Ns mainGlobals mg) (c : SaysM chk fnl K) : CallG ⟨P, w, K, mg, base⟩ (wlOf K) 3 "PathBags" (mkr g1 ("PathBags", ["bags"])) ∧ CallR' ⟨P, w, K, mg, base⟩ (wlOf K) 3 "PathBags" ["bags"] (mkr g1 ("PathBags", ["bags"])) := by
  obtain ⟨h1, h2⟩ := call_cls (Nf := 0) (md := false) (md2 := false) (ps := ["self", "bags"]) (ks := ["bags"]) (G := g1) (k := 1) (s := s_PathBags) (x := "PathBags") (qual := "PathBags.__init__") (fs := ["bags"]) T X Gn c (List.mem_of_getElem? (i := 51) rfl) (List.mem_of_getElem? (i := 64) rfl) rfl (by kernel_rfl) (fun _ _ _ _ _ _ us hl => match us, hl with | [_, _], _ => rfl) rfl
    (gok T X Gn (.cons (c_copied T X Gn c) .nil) .nil (by kernel_rfl) (by kernel_rfl) (by kernel_rfl)) ok_PathBags
  exact ⟨h1, h2 fun _ _ _ _ _ _ a us hl => match us, hl with | [_], _ => rfl⟩
theorem c__law_bare (T : TabP tb K) (X : K.In base) (Gn : base.Ns mainGlobals mg) (c : SaysM chk fnl K) : CallG ⟨P, w, K, mg, base⟩ (wlOf K) 2 "_law_bare" bareF :=
  call_def (Nf := 0) (md := false) (ps := []) (G := gB) (k := 1) T X Gn c (List.mem_of_getElem? (i := 9) rfl) (List.mem_of_getElem? (i := 9) rfl) rfl (by kernel_rfl) (fun _ _ _ _ _ _ us hl => match us, hl with | [], _ => rfl) rfl
    (gok T X Gn (.cons (call_bare (k := 0) (md := false) T X Gn (List.mem_of_getElem? (i := 6) rfl)) (.cons (call_bare (k := 0) (md := false) T X Gn (List.mem_of_getElem? (i := 7) rfl)) (.cons (call_bare (k := 0) (md := false) T X Gn (List.mem_of_getElem? (i := 8) rfl)) (.cons (call_bare (k := 0) (md := false) T X Gn (List.mem_of_getElem? (i := 1) rfl)) (.cons (call_bare (k := 0) (md := false) T X Gn (List.mem_of_getElem? (i := 9) rfl)) (.cons (call_bare (k := 0) (md := false) T X Gn (List.mem_of_getElem? (i := 2) rfl)) (.cons (call_bare (k := 0) (md := false) T X Gn (List.mem_of_getElem? (i := 3) rfl)) (.cons (call_bare (k := 0) (md := false) T X Gn (List.mem_of_getElem? (i := 4) rfl)) (.cons (call_bare (k := 0) (md := false) T X Gn (List.mem_of_getElem? (i := 11) rfl)) (.cons (call_bare (k := 0) (md := false) T X Gn (List.mem_of_getElem? (i := 12) rfl)) (.cons (call_bare (k := 0) (md := false) T X Gn (List.mem_of_getElem? (i := 5) rfl)) (.cons (call_bare (k := 0) (md := false) T X Gn (List.mem_of_getElem? (i := 13) rfl)) (.cons (call_bare (k := 0) (md := false) T X Gn (List.mem_of_getElem? (i := 10) rfl)) (.cons (call_bare (k := 0) (md := false) T X Gn (List.mem_of_getElem? (i := 0) rfl)) .nil)))))))))))))) .nil (by kernel_rfl) (by kernel_rfl) (by kernel_rfl)) ok__law_bare
theorem c__law_made_a (T : TabP tb K) (X : K.In base) (Gn : base.Ns mainGlobals mg) (c : SaysM chk fnl K) : CallG ⟨P, w, K, mg, base⟩ (wlOf K) 4 "_law_made_a" madea :=
  call_def (Nf := 0) (md := false) (ps := ["a", "b", "c", "d"]) (G := ga1) (k := 3) T X Gn c (List.mem_of_getElem? (i := 4) rfl) (List.mem_of_getElem? (i := 4) rfl) rfl (by kernel_rfl) (fun _ _ _ _ _ _ us hl => match us, hl with | [_, _, _, _], _ => rfl) rfl
    (gok T X Gn (.cons (c_Way T X Gn c).1 (.cons (c_Unheld T X Gn c).1 (.cons (c_Breaks T X Gn c).1 (.cons (c_FreeLot T X Gn c).1 (.cons (c_TiedCover T X Gn c).1 (.cons (c_BagSum T X Gn c).1 (.cons (c_LowAt T X Gn c).1 (.cons (c_SumBar T X Gn c).1 (.cons (c_Squares T X Gn c).1 (.cons (c_SumLost T X Gn c).1 (.cons (c_CornerLow T X Gn c).1 .nil))))))))))) (.cons rfl (c_Way T X Gn c).2 (.cons rfl (c_Unheld T X Gn c).2 (.cons rfl (c_Breaks T X Gn c).2 (.cons rfl (c_FreeLot T X Gn c).2 (.cons rfl (c_TiedCover T X Gn c).2 (.cons rfl (c_BagSum T X Gn c).2 (.cons rfl (c_LowAt T X Gn c).2 (.cons rfl (c_SumBar T X Gn c).2 (.cons rfl (c_Squares T X Gn c).2 (.cons rfl (c_SumLost T X Gn c).2 (.cons rfl (c_CornerLow T X Gn c).2 .nil))))))))))) (by kernel_rfl) (by kernel_rfl) (by kernel_rfl)) ok__law_made_a
theorem c__law_made_b (T : TabP tb K) (X : K.In base) (Gn : base.Ns mainGlobals mg) (c : SaysM chk fnl K) : CallG ⟨P, w, K, mg, base⟩ (wlOf K) 4 "_law_made_b" madeb :=
  call_def (Nf := 0) (md := false) (ps := ["a", "b", "c", "d"]) (G := gb1) (k := 3) T X Gn c (List.mem_of_getElem? (i := 5) rfl) (List.mem_of_getElem? (i := 5) rfl) rfl (by kernel_rfl) (fun _ _ _ _ _ _ us hl => match us, hl with | [_, _, _, _], _ => rfl) rfl
    (gok T X Gn (.cons (c_Disagree T X Gn c).1 (.cons (c_Whole T X Gn c).1 (.cons (c_CountBar T X Gn c).1 (.cons (c_CountsLost T X Gn c).1 (.cons (c_Cover T X Gn c).1 (.cons (c_CoverGap T X Gn c).1 (.cons (c_BagFactors T X Gn c).1 (.cons (c_NoFactors T X Gn c).1 (.cons (c_FillLost T X Gn c).1 (.cons (c_Folds T X Gn c).1 (.cons (c_Knot T X Gn c).1 .nil))))))))))) (.cons rfl (c_Disagree T X Gn c).2 (.cons rfl (c_Whole T X Gn c).2 (.cons rfl (c_CountBar T X Gn c).2 (.cons rfl (c_CountsLost T X Gn c).2 (.cons rfl (c_Cover T X Gn c).2 (.cons rfl (c_CoverGap T X Gn c).2 (.cons rfl (c_BagFactors T X Gn c).2 (.cons rfl (c_NoFactors T X Gn c).2 (.cons rfl (c_FillLost T X Gn c).2 (.cons rfl (c_Folds T X Gn c).2 (.cons rfl (c_Knot T X Gn c).2 .nil))))))))))) (by kernel_rfl) (by kernel_rfl) (by kernel_rfl)) ok__law_made_b
theorem c__law_made_c (T : TabP tb K) (X : K.In base) (Gn : base.Ns mainGlobals mg) (c : SaysM chk fnl K) : CallG ⟨P, w, K, mg, base⟩ (wlOf K) 4 "_law_made_c" madec :=
  call_def (Nf := 0) (md := false) (ps := ["a", "b", "c", "d"]) (G := gc1) (k := 3) T X Gn c (List.mem_of_getElem? (i := 6) rfl) (List.mem_of_getElem? (i := 6) rfl) rfl (by kernel_rfl) (fun _ _ _ _ _ _ us hl => match us, hl with | [_, _, _, _], _ => rfl) rfl
    (gok T X Gn (.cons (c_Signed T X Gn c).1 (.cons (c_Hued T X Gn c).1 (.cons (c_UnlikeTwo T X Gn c).1 (.cons (c_Hanging T X Gn c).1 (.cons (c_RingTables T X Gn c).1 (.cons (c_NewNumber T X Gn c).1 (.cons (c_RingCounts T X Gn c).1 (.cons (c_PartBreak T X Gn c).1 (.cons (c_PartingLoose T X Gn c).1 (.cons (c_BagRow T X Gn c).1 (.cons (c_FarThree T X Gn c).1 .nil))))))))))) (.cons rfl (c_Signed T X Gn c).2 (.cons rfl (c_Hued T X Gn c).2 (.cons rfl (c_UnlikeTwo T X Gn c).2 (.cons rfl (c_Hanging T X Gn c).2 (.cons rfl (c_RingTables T X Gn c).2 (.cons rfl (c_NewNumber T X Gn c).2 (.cons rfl (c_RingCounts T X Gn c).2 (.cons rfl (c_PartBreak T X Gn c).2 (.cons rfl (c_PartingLoose T X Gn c).2 (.cons rfl (c_BagRow T X Gn c).2 (.cons rfl (c_FarThree T X Gn c).2 .nil))))))))))) (by kernel_rfl) (by kernel_rfl) (by kernel_rfl)) ok__law_made_c
theorem c__law_made_d (T : TabP tb K) (X : K.In base) (Gn : base.Ns mainGlobals mg) (c : SaysM chk fnl K) : CallG ⟨P, w, K, mg, base⟩ (wlOf K) 4 "_law_made_d" maded :=
  call_def (Nf := 0) (md := false) (ps := ["a", "b", "c", "d"]) (G := gd1) (k := 3) T X Gn c (List.mem_of_getElem? (i := 7) rfl) (List.mem_of_getElem? (i := 7) rfl) rfl (by kernel_rfl) (fun _ _ _ _ _ _ us hl => match us, hl with | [_, _, _, _], _ => rfl) rfl
    (gok T X Gn (.cons (c_Stretches T X Gn c).1 (.cons (c_OddHole T X Gn c).1 (.cons (c_OddAntihole T X Gn c).1 (.cons (c_Factors T X Gn c).1 (.cons (c_NotAbove T X Gn c).1 (.cons (c_SolvedEver T X Gn c).1 (.cons (c_NewEver T X Gn c).1 (.cons (c_LeastNew T X Gn c).1 (.cons (c_Strong T X Gn c).1 (.cons (c_Sun T X Gn c).1 (.cons (c_Unbalanced T X Gn c).1 .nil))))))))))) (.cons rfl (c_Stretches T X Gn c).2 (.cons rfl (c_OddHole T X Gn c).2 (.cons rfl (c_OddAntihole T X Gn c).2 (.cons rfl (c_Factors T X Gn c).2 (.cons rfl (c_NotAbove T X Gn c).2 (.cons rfl (c_SolvedEver T X Gn c).2 (.cons rfl (c_NewEver T X Gn c).2 (.cons rfl (c_LeastNew T X Gn c).2 (.cons rfl (c_Strong T X Gn c).2 (.cons rfl (c_Sun T X Gn c).2 (.cons rfl (c_Unbalanced T X Gn c).2 .nil))))))))))) (by kernel_rfl) (by kernel_rfl) (by kernel_rfl)) ok__law_made_d
theorem c__law_made_e (T : TabP tb K) (X : K.In base) (Gn : base.Ns mainGlobals mg) (c : SaysM chk fnl K) : CallG ⟨P, w, K, mg, base⟩ (wlOf K) 4 "_law_made_e" madee :=
  call_def (Nf := 0) (md := false) (ps := ["a", "b", "c", "d"]) (G := ge1) (k := 3) T X Gn c (List.mem_of_getElem? (i := 8) rfl) (List.mem_of_getElem? (i := 8) rfl) rfl (by kernel_rfl) (fun _ _ _ _ _ _ us hl => match us, hl with | [_, _, _, _], _ => rfl) rfl
    (gok T X Gn (.cons (c_Flat T X Gn c).1 (.cons (c_Below T X Gn c).1 (.cons (c_Taken T X Gn c).1 (.cons (c_Ringed T X Gn c).1 (.cons (c_BagTree T X Gn c).1 (.cons (c_NarrowTree T X Gn c).1 (.cons (c_Crowds T X Gn c).1 (.cons (c_PathBags T X Gn c).1 .nil)))))))) (.cons rfl (c_Flat T X Gn c).2 (.cons rfl (c_Below T X Gn c).2 (.cons rfl (c_Taken T X Gn c).2 (.cons rfl (c_Ringed T X Gn c).2 (.cons rfl (c_BagTree T X Gn c).2 (.cons rfl (c_NarrowTree T X Gn c).2 (.cons rfl (c_Crowds T X Gn c).2 (.cons rfl (c_PathBags T X Gn c).2 .nil)))))))) (by kernel_rfl) (by kernel_rfl) (by kernel_rfl)) ok__law_made_e
noncomputable abbrev gL : Pg := tb.pg [("_law_pen", penF g0), ("_law_value", valueF gv), ("_law_bare", bareF), ("_law_made_a", madea), ("_law_made_b", madeb), ("_law_made_c", madec), ("_law_made_d", maded), ("_law_made_e", madee), ("_law_copy", copF g0), ("_law_draw", drawF g0), ("Taken", mkr g1 ("Taken", ["row"]))]
theorem gok_law (T : TabP tb K) (X : K.In base) (Gn : base.Ns mainGlobals mg) (c : SaysM chk fnl K) : ∀ fr wx, Gok ⟨P, w, K, mg, base⟩ 4 ⟨wlOf K, gL, fr, wx⟩ ck_law :=
  gok T X Gn (.cons ((c__law_pen T X Gn c).mono (by decide)) (.cons ((c__law_value T X Gn c).mono (by decide)) (.cons ((c__law_bare T X Gn c).mono (by decide)) (.cons ((c__law_made_a T X Gn c).mono (by decide)) (.cons ((c__law_made_b T X Gn c).mono (by decide)) (.cons ((c__law_made_c T X Gn c).mono (by decide)) (.cons ((c__law_made_d T X Gn c).mono (by decide)) (.cons ((c__law_made_e T X Gn c).mono (by decide)) (.cons ((c__law_copy T X Gn c).mono (by decide)) (.cons ((c__law_draw T X Gn c).mono (by decide)) (.cons ((c_Taken T X Gn c).1.mono (by decide)) .nil))))))))))) .nil (by kernel_rfl) (by kernel_rfl) (by kernel_rfl)
end
end M.K90
end
set_option Elab.async false
set_option linter.all false
set_option maxRecDepth 100000
set_option maxHeartbeats 0
set_option autoImplicit false
namespace M.K90
open PySem PySem.Spec PyProof.Rows L2
theorem c_law {P : Program} {w : World} {K : PySem.W.Frag} {mg : Str → Option Value} {chk : PySem.W.Frag → Bool} (T : TabP tb K) (c : SaysM chk fnl K) : ∃ fd, (∀ (s : Shared) (u : Value), BindsTo s fd ⟨[u], []⟩ [("script", u)]) ∧ ∀ base : Heap, K.In base → base.Ns mainGlobals mg → FnG ⟨P, w, K, mg, base⟩ 5 (He.fAd K ("law", none)) fd ["script"] (spM (wlOf K) (runF gL 0 false 21 1 lawIR)) := by
  obtain ⟨fd, h1, h2⟩ := law_fd (P := P) (w := w) (mg := mg) (Nf := 0) (md := false) (ps := ["script"]) (G := gL) (k := 4) (s := s_law) (at_ := ("law", none)) (name := "law") (qual := "law") (ck := ck_law) c (List.mem_of_getElem? (i := 12) rfl) rfl (by kernel_rfl) (fun _ _ _ _ _ _ us hl => match us, hl with | [_], _ => rfl) rfl (fun base X Gn => gok_law T X Gn c) ok_law
  exact ⟨fd, fun s u => h1 s [u] rfl, h2⟩
theorem plain (ns : List Int) : ∃ st, runF gL 0 false 21 1 lawIR [] [.lck (ns.map .int)] [] = .ok (.bl true) st := by
  refine law_ok (g0 := g0) (gp := g0) (gv := gv) (g1 := gk) (gc := g0) (gi := g1) (names := tb.names) (n0 := lb.length) (n1 := la1.length) (n2 := lb1.length) (n3 := lc1.length) (n4 := ld1.length) (n5 := le1.length) rfl rfl rfl rfl rfl rfl rfl rfl rfl rfl rfl ?_ ?_ rfl rfl rfl rfl rfl rfl rfl rfl
  · exact fun fr st => bare_rows (bareP_all (t := tb) (by decide +kernel) (by decide +kernel)) (by decide) st
  · intro vs h4 hv
    exact ⟨fun fr st => made_rows (g0 := g0) rfl h4 hv (clsP_all (t := tb) (by decide +kernel)) (by decide) st, fun fr st => made_rows (g0 := g0) rfl h4 hv (clsP_all (t := tb) (by decide +kernel)) (by decide) st, fun fr st => made_rows (g0 := g0) rfl h4 hv (clsP_all (t := tb) (by decide +kernel)) (by decide) st, fun fr st => made_rows (g0 := g0) rfl h4 hv (clsP_all (t := tb) (by decide +kernel)) (by decide) st, fun fr st => made_rows (g0 := g0) rfl h4 hv (clsP_all (t := tb) (by decide +kernel)) (by decide) st⟩
end M.K90
open PySem PySem.W PySem.Calls PyProof.Rows
theorem PySem.Challenge.cw_bagtrees_k90_classes_made_by_hand_holds : PySem.Challenge.rw_bagtrees_k90_classes_made_by_hand.Holds := by
  w_on; o_law
  refine HandSHeadRun.head_any (r := OpenLaw.row PySem.Challenge.rw_bagtrees_k90_classes_made_by_hand) (q := M.K90.qv) (H := M.hookM (M.tabOk M.K90.tb) M.K90.fnl) (ob := fun s => M.obsMG (M.tabOk M.K90.tb) M.K90.fnl (HandSHeadRun.getT s)) (M := 40000) (loose := M.K90.names) (d := HandSHeadRun.topDef (OpenLaw.row PySem.Challenge.rw_bagtrees_k90_classes_made_by_hand).prog 102) (kwd := []) M.K90.ob_eq
    (by kernel_rfl) (fun s => by kernel_rfl) M.K90.run (by kernel_rfl) (by kernel_rfl) (by kernel_rfl) (by rfl) (by first | assumption | decide +kernel) (by decide +kernel) ⟨rfl, rfl, rfl, rfl, rfl, by decide +kernel⟩ ?hw ?hc
  case hw => w_witness2
  case hc =>
    refine M.walkG (l := PySem.Challenge.rw_bagtrees_k90_classes_made_by_hand) (n := 63) (k := 5) (x := "script") rfl (by decide) (by kernel_rfl) ⟨rfl, by decide, by decide⟩ ?F
    intro w mg fa h Y G hmg0
    obtain ⟨K, KX, c⟩ := Y
    have hmg : mg ("law" : PySem.Str) = some (.ref fa) := by
      have e : (HandSHeadRun.topDef (OpenLaw.row PySem.Challenge.rw_bagtrees_k90_classes_made_by_hand).prog 102).name = ("law" : PySem.Str) := by kernel_rfl
      rw [← e]
      exact hmg0
    have T := M.tabP c.chk
    have eg := He.glo_ok KX G (T.defs "law" (List.mem_of_getElem? (i := 12) rfl)).1
    have e2 : He.fAd K ("law", none) = fa := by
      have := eg.symm.trans hmg
      exact Value.ref.inj (Option.some.inj this)
    obtain ⟨fd, hb, hF⟩ := M.K90.c_law (P := PySem.Challenge.rw_bagtrees_k90_classes_made_by_hand.prog) (w := w) (mg := mg) T c
    rw [e2] at hF
    exact ⟨K, fd, M.wlOf K, _, KX, rfl, hb, fun ns _ => M.K90.plain ns, hF⟩

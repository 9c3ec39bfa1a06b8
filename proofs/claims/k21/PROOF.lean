import PyProof.Rows.All
import Wide.All
import OpenK.AllK
import Wide.FinOn
import HandS.ExcIs
import HandS.Words
import HandS.WordsExc
import HandS.Head0
import HandS.Head1
import HandS.Head2
import HandS.HeadEnd
import HandS.HeadHook1
import HandS.HeadHook2
import HandS.ForMost
import KE.SortData
import KE.DataMinMax
import HandS.ForExc
import KE.DataEq
import KE.DataFind
import HandS.TupAny
import HandS.TupMul
import HandS.Style
import HandS.IsInst
import HandS.Deep
import HandS.WideBits
import HandS.Wide
import HandS.NoneIn
import PyProof.DictFindH
import KE.GoesMore
import KE.GoesEnum
import HandS.TupSets
import PyProof.SetRoads
import PyProof.Claim2Refuses
import HandS.Conv
import PyProof.SeqIndex
import PyProof.SumAny
import HandS.More
import KE.KDictList
import HandS.HotCalls
import HandS.NamedTupGet
import HandS.SlotsOwn
import HandS.ExcCtx
import HandS.Defaults
import HandS.Ends
import PySem.Challenge.RW_apartpaths_k21_piles_and_steps_refused
set_option Elab.async false
set_option linter.all false
set_option autoImplicit false
set_option maxRecDepth 100000
set_option maxHeartbeats 0
section
/-! The head's facts, and a test of one's own. -/
namespace Ap
open PySem PySem.Spec PyProof.Rows L2

/-- the body of a class -/
def clsB : Stmt → List Stmt
  | .ClassDef (body := b) .. => b
  | _ => []
def atS (body : List Stmt) (i : Nat) : Stmt := body.getD i (.Pass ⟨0, 0, 0, 0⟩)
def grp1 : List Str := ["InvalidGrid", "InvalidPoint", "InvalidPath"]
def grp2 : List Str := ["InvalidLines", "InvalidSystem", "InvalidNumber"]
def grp3 : List Str := ["InvalidPile", "InvalidStep", "NotAligned"]
def grp4 : List Str := ["IsApart", "NoSystem", "TooMany", "Stuck"]
def grp5 : List Str := ["NothingToUndo", "ParseError"]
/-- the classes of exceptions, as _law_which asks for them -/
def excNames : List Str := grp1 ++ grp2 ++ grp3 ++ grp4 ++ grp5
def excB (K : PySem.W.Frag) (x : Str) : Bool :=
  He.eqO (PySem.W.findIn K (.ref (He.ga K x)) "__getattribute__") (some (some (.builtin "BaseException.__getattribute__"))) && (He.eqO (PySem.W.findIn K (.ref (He.ga K x)) "__getattr__") (some none) &&
  (decide (PySem.W.subIn K (.ref (He.ga K x)) (.type "BaseException") = some true) && (PySem.W.hasDictIn K (He.ga K x) && (He.eqO (PySem.W.findIn K (.ref (He.ga K x)) "__class__") (some (some (.builtin "object.__class__"))) &&
  (He.eqO (PySem.W.specialIn K (.builtin "object.__class__") "__get__") (some (some (.builtin "getset_descriptor.__get__"))) && (decide (PySem.W.takesIn K (.builtin "object.__class__") = some true) && decide (PySem.W.mroIn K (He.ga K x) (.type "object") = some true)))))))
theorem excB_ok {K : PySem.W.Frag} {x : Str} (h : excB K x = true) : ExcC K (He.ga K x) := by
  unfold excB at h
  simp only [Bool.and_eq_true, decide_eq_true_eq] at h
  obtain ⟨h1, h2, h3, h4, h5, h6, h7, h8⟩ := h
  exact ⟨He.eqO_ok h1, He.eqO_ok h2, h3, h4, He.eqO_ok h5, He.eqO_ok h6, h7, h8⟩
def hkitB (K : PySem.W.Frag) (x : Str) (c : Value) (b : Bool) : Bool := decide (PySem.W.kitOne K (.ref (He.ga K x)) c = some b)
def whichB (K : PySem.W.Frag) : Bool := excNames.all fun x => excB K x && (hkitB K x (.type "ValueError") true && (decide (PySem.W.exmOne K (.ref (He.ga K x)) (.ref (He.ga K "PathError")) = some true) && excNames.all fun y => hkitB K x (.ref (He.ga K y)) (decide (x = y))))
/-- NotOpen takes itself, and none of the others -/
def openB (K : PySem.W.Frag) : Bool := decide (PySem.W.exmOne K (.ref (He.ga K "NotOpen")) (.ref (He.ga K "NotOpen")) = some true) && excNames.all fun x => decide (PySem.W.exmOne K (.ref (He.ga K x)) (.ref (He.ga K "NotOpen")) = some false)
def whichO (K : PySem.W.Frag) : Bool := whichB K && openB K
/-- the class of routers -/
def rtNo : List String := ["NoneType", "bool", "int", "str", "list", "tuple"]
def routB (K : PySem.W.Frag) : Bool :=
  He.eqO (PySem.W.findIn K (.ref (He.ga K "Router")) "__class__") (some (some (.builtin "object.__class__"))) && (He.eqO (PySem.W.specialIn K (.builtin "object.__class__") "__get__") (some (some (.builtin "getset_descriptor.__get__"))) &&
  (decide (PySem.W.takesIn K (.builtin "object.__class__") = some true) && (decide (PySem.W.mroIn K (He.ga K "Router") (.type "object") = some true) && (He.eqO (PySem.W.findIn K (.ref (He.ga K "Router")) "__ne__") (some (some (.builtin "object.__ne__"))) &&
  (decide (PySem.W.subIn K (.ref (He.ga K "Router")) (.type "object") = some true) && (decide (PySem.W.kitOne K (.ref (He.ga K "Router")) (.ref (He.ga K "Router")) = some true) &&
  rtNo.all fun t => decide (PySem.W.kitOne K (.type t) (.ref (He.ga K "Router")) = some false) && decide (PySem.W.subIn K (.type t) (.ref (He.ga K "Router")) = some false)))))))
def whichR (K : PySem.W.Frag) : Bool := whichB K && routB K
abbrev AlT : Type := Bool × He.AlD
def hookT (n : Nat) (fa : List He.Fa) (fn : List He.DefD) (ts : PySem.W.Frag → Bool) : PySem.W.Hook where
  α := AlT
  obs := fun s => (ts (He.frG s.heap.get? (He.asD s.heap.get? n)), He.obsDG n fa fn s.heap.get?)
  val := fun _ => (true, He.valD fn)
  says := fun _ h => ∃ K : PySem.W.Frag, K.In h ∧ (ts K = true ∧ He.SaysD fa fn K)
  of := fun _ _ e => ⟨_, He.frG_in, congrArg (fun z : AlT => z.1) e, congrArg (fun z : AlT => z.2) e⟩
  keeps := fun _ _ _ ⟨K, hK, c⟩ k => ⟨K, PySem.W.Frag.In.keeps hK k, c⟩
def obsT (n : Nat) (fa : List He.Fa) (fn : List He.DefD) (ts : PySem.W.Frag → Bool) (g : Addr → Option Obj) : AlT := (ts (He.frG g (He.asD g n)), He.obsDG n fa fn g)
theorem obsT_eq {n : Nat} {fa : List He.Fa} {fn : List He.DefD} {ts : PySem.W.Frag → Bool} {g : Addr → Option Obj} {s : Shared} (h : ∀ a, g a = s.heap.get? a) : obsT n fa fn ts g = (hookT n fa fn ts).obs s := by
  have e : g = s.heap.get? := funext h
  rw [e] <;> rfl
end Ap

end
section
/-! the head of k21 (printed by gen.py) -/
namespace K21
open PySem PySem.Spec PyProof.Rows L2 Ap
abbrev body : List Stmt := PySem.Challenge.pw_apartpaths_k21_piles_and_steps_refused.main.body
abbrev st_R_init : Stmt := atS (clsB (atS body 52)) 0
abbrev st_R___len__ : Stmt := atS (clsB (atS body 52)) 13
abbrev st_R___str__ : Stmt := atS (clsB (atS body 52)) 14
abbrev st_R_taken : Stmt := atS (clsB (atS body 52)) 1
abbrev st_R_free : Stmt := atS (clsB (atS body 52)) 2
abbrev st_R_extended : Stmt := atS (clsB (atS body 52)) 3
abbrev st_R_step : Stmt := atS (clsB (atS body 52)) 4
abbrev st_R_able : Stmt := atS (clsB (atS body 52)) 5
abbrev st_R_can_finish : Stmt := atS (clsB (atS body 52)) 6
abbrev st_R_undo : Stmt := atS (clsB (atS body 52)) 10
def facts : List He.Fa := ([.glo "is_integer", .glo "is_grid", .glo "check_grid", .glo "_law_cell_at", .glo "_law_mixed", .glo "_law_draw", .glo "weight_at", .glo "is_open", .glo "after", .glo "valid_path", .glo "path_list", .glo "are_points", .glo "are_lines", .glo "check_lines", .glo "valid_system", .glo "points_of", .glo "keeps_apart", .glo "order_of", .glo "straight_systems", .glo "_law_which"] : List He.Fa) ++ ([.glo "is_straight", .glo "check_numbers", .glo "count_piles", .glo "valid_pile", .glo "is_pile", .glo "grid_for", .glo "lines_for", .glo "path_for", .glo "system_of", .glo "row_for", .glo "pile_of", .glo "_law_pile", .glo "_law_step", .glo "_law_steps_refused", .glo "law", .free "len", .free "isinstance", .free "all", .free "any", .free "sum"] : List He.Fa) ++ ([.free "min", .free "max", .free "sorted", .free "tuple", .free "list", .free "range", .free "zip", .free "enumerate", .free "set", .free "str", .free "int", .free "bool", .free "ValueError", .int "SIDE" 6, .str "WAYS" "RU", .glo "PathError", .glo "InvalidGrid", .glo "InvalidPoint", .glo "InvalidPath", .glo "InvalidLines"] : List He.Fa) ++ ([.glo "InvalidSystem", .glo "InvalidNumber", .glo "InvalidPile", .glo "InvalidStep", .glo "NotAligned", .glo "IsApart", .glo "NoSystem", .glo "TooMany", .glo "Stuck", .glo "NothingToUndo", .glo "ParseError", .exc "PathError", .exc "InvalidGrid", .exc "InvalidPoint", .exc "InvalidPath", .exc "InvalidLines", .exc "InvalidSystem", .exc "InvalidNumber", .exc "InvalidPile", .exc "InvalidStep"] : List He.Fa) ++ ([.exc "NotAligned", .exc "IsApart", .exc "NoSystem", .exc "TooMany", .exc "Stuck", .exc "NothingToUndo", .exc "ParseError", .glo "Router", .mkr "Router", .cls "Router", .noat "Router" "grid", .noat "Router" "lines", .noat "Router" "routes", .noat "Router" "steps", .noat "Router" "kept", .meth "Router" "__len__", .meth "Router" "__str__", .meth "Router" "taken", .meth "Router" "free", .meth "Router" "extended"] : List He.Fa) ++ ([.meth "Router" "step", .meth "Router" "able", .meth "Router" "can_finish", .meth "Router" "undo"] : List He.Fa)
def fns : List He.DefD := ([⟨("is_integer", none), "is_integer", "is_integer", defArgs (atS body 20), defBody (atS body 20), defScope (atS body 20), [], []⟩, ⟨("is_grid", none), "is_grid", "is_grid", defArgs (atS body 21), defBody (atS body 21), defScope (atS body 21), [], []⟩, ⟨("check_grid", none), "check_grid", "check_grid", defArgs (atS body 22), defBody (atS body 22), defScope (atS body 22), [], []⟩, ⟨("_law_cell_at", none), "_law_cell_at", "_law_cell_at", defArgs (atS body 54), defBody (atS body 54), defScope (atS body 54), [], []⟩, ⟨("_law_mixed", none), "_law_mixed", "_law_mixed", defArgs (atS body 55), defBody (atS body 55), defScope (atS body 55), [], []⟩, ⟨("_law_draw", none), "_law_draw", "_law_draw", defArgs (atS body 56), defBody (atS body 56), defScope (atS body 56), [], []⟩, ⟨("weight_at", none), "weight_at", "weight_at", defArgs (atS body 23), defBody (atS body 23), defScope (atS body 23), [], []⟩, ⟨("is_open", none), "is_open", "is_open", defArgs (atS body 24), defBody (atS body 24), defScope (atS body 24), [], []⟩, ⟨("after", none), "after", "after", defArgs (atS body 25), defBody (atS body 25), defScope (atS body 25), [], []⟩, ⟨("valid_path", none), "valid_path", "valid_path", defArgs (atS body 27), defBody (atS body 27), defScope (atS body 27), [], []⟩] : List He.DefD) ++ ([⟨("path_list", none), "path_list", "path_list", defArgs (atS body 28), defBody (atS body 28), defScope (atS body 28), [], []⟩, ⟨("are_points", none), "are_points", "are_points", defArgs (atS body 30), defBody (atS body 30), defScope (atS body 30), [], []⟩, ⟨("are_lines", none), "are_lines", "are_lines", defArgs (atS body 31), defBody (atS body 31), defScope (atS body 31), [], []⟩, ⟨("check_lines", none), "check_lines", "check_lines", defArgs (atS body 32), defBody (atS body 32), defScope (atS body 32), [], []⟩, ⟨("valid_system", none), "valid_system", "valid_system", defArgs (atS body 33), defBody (atS body 33), defScope (atS body 33), [], []⟩, ⟨("points_of", none), "points_of", "points_of", defArgs (atS body 34), defBody (atS body 34), defScope (atS body 34), [], []⟩, ⟨("keeps_apart", none), "keeps_apart", "keeps_apart", defArgs (atS body 35), defBody (atS body 35), defScope (atS body 35), [], []⟩, ⟨("order_of", none), "order_of", "order_of", defArgs (atS body 36), defBody (atS body 36), defScope (atS body 36), [], []⟩, ⟨("straight_systems", none), "straight_systems", "straight_systems", defArgs (atS body 38), defBody (atS body 38), defScope (atS body 38), [], []⟩, ⟨("_law_which", none), "_law_which", "_law_which", defArgs (atS body 57), defBody (atS body 57), defScope (atS body 57), [], []⟩] : List He.DefD) ++ ([⟨("is_straight", none), "is_straight", "is_straight", defArgs (atS body 37), defBody (atS body 37), defScope (atS body 37), [], []⟩, ⟨("check_numbers", none), "check_numbers", "check_numbers", defArgs (atS body 40), defBody (atS body 40), defScope (atS body 40), [], []⟩, ⟨("count_piles", none), "count_piles", "count_piles", defArgs (atS body 41), defBody (atS body 41), defScope (atS body 41), [], []⟩, ⟨("valid_pile", none), "valid_pile", "valid_pile", defArgs (atS body 42), defBody (atS body 42), defScope (atS body 42), [], []⟩, ⟨("is_pile", none), "is_pile", "is_pile", defArgs (atS body 43), defBody (atS body 43), defScope (atS body 43), [], []⟩, ⟨("grid_for", none), "grid_for", "grid_for", defArgs (atS body 44), defBody (atS body 44), defScope (atS body 44), [], []⟩, ⟨("lines_for", none), "lines_for", "lines_for", defArgs (atS body 45), defBody (atS body 45), defScope (atS body 45), [], []⟩, ⟨("path_for", none), "path_for", "path_for", defArgs (atS body 46), defBody (atS body 46), defScope (atS body 46), [], []⟩, ⟨("system_of", none), "system_of", "system_of", defArgs (atS body 47), defBody (atS body 47), defScope (atS body 47), [], []⟩, ⟨("row_for", none), "row_for", "row_for", defArgs (atS body 48), defBody (atS body 48), defScope (atS body 48), [], []⟩] : List He.DefD) ++ ([⟨("pile_of", none), "pile_of", "pile_of", defArgs (atS body 49), defBody (atS body 49), defScope (atS body 49), [], []⟩, ⟨("_law_pile", none), "_law_pile", "_law_pile", defArgs (atS body 58), defBody (atS body 58), defScope (atS body 58), [], []⟩, ⟨("_law_step", none), "_law_step", "_law_step", defArgs (atS body 59), defBody (atS body 59), defScope (atS body 59), [], []⟩, ⟨("_law_steps_refused", none), "_law_steps_refused", "_law_steps_refused", defArgs (atS body 60), defBody (atS body 60), defScope (atS body 60), [], []⟩, ⟨("law", none), "law", "law", defArgs (atS body 61), defBody (atS body 61), defScope (atS body 61), [], []⟩, ⟨("Router", some "__init__"), "__init__", "Router.__init__", defArgs st_R_init, defBody st_R_init, defScope st_R_init, [], []⟩, ⟨("Router", some "__len__"), "__len__", "Router.__len__", defArgs st_R___len__, defBody st_R___len__, defScope st_R___len__, [], []⟩, ⟨("Router", some "__str__"), "__str__", "Router.__str__", defArgs st_R___str__, defBody st_R___str__, defScope st_R___str__, [], []⟩, ⟨("Router", some "taken"), "taken", "Router.taken", defArgs st_R_taken, defBody st_R_taken, defScope st_R_taken, [], []⟩, ⟨("Router", some "free"), "free", "Router.free", defArgs st_R_free, defBody st_R_free, defScope st_R_free, [], []⟩] : List He.DefD) ++ ([⟨("Router", some "extended"), "extended", "Router.extended", defArgs st_R_extended, defBody st_R_extended, defScope st_R_extended, [], []⟩, ⟨("Router", some "step"), "step", "Router.step", defArgs st_R_step, defBody st_R_step, defScope st_R_step, [], []⟩, ⟨("Router", some "able"), "able", "Router.able", defArgs st_R_able, defBody st_R_able, defScope st_R_able, [], []⟩, ⟨("Router", some "can_finish"), "can_finish", "Router.can_finish", defArgs st_R_can_finish, defBody st_R_can_finish, defScope st_R_can_finish, [], []⟩, ⟨("Router", some "undo"), "undo", "Router.undo", defArgs st_R_undo, defBody st_R_undo, defScope st_R_undo, [], []⟩] : List He.DefD)
abbrev R : PySem.W.OpenRow := PySem.W.OpenLaw.row PySem.Challenge.rw_apartpaths_k21_piles_and_steps_refused
abbrev hk : PySem.W.Hook := hookT 4 facts fns whichR
def ob (s : PySem.W.SharedT) : AlT := obsT 4 facts fns whichR (HandSHeadRun.getT s)
theorem ob_eq (s : PySem.W.SharedT) : ob s = hk.obs s.abs := obsT_eq (HandSHeadRun.getT_eq s)
def loose : List Str := [("_wall" : Str), ("is_integer" : Str), ("is_grid" : Str), ("check_grid" : Str), ("weight_at" : Str), ("is_open" : Str), ("after" : Str), ("valid_path" : Str), ("path_list" : Str), ("are_points" : Str), ("are_lines" : Str), ("check_lines" : Str), ("valid_system" : Str), ("points_of" : Str), ("keeps_apart" : Str), ("order_of" : Str), ("is_straight" : Str), ("straight_systems" : Str), ("check_numbers" : Str), ("count_piles" : Str), ("valid_pile" : Str), ("is_pile" : Str), ("grid_for" : Str), ("lines_for" : Str), ("path_for" : Str), ("system_of" : Str), ("row_for" : Str), ("pile_of" : Str), ("_law_cell_at" : Str), ("_law_mixed" : Str), ("_law_draw" : Str), ("_law_which" : Str), ("_law_pile" : Str), ("_law_step" : Str), ("_law_steps_refused" : Str), ("PathError" : Str), ("InvalidGrid" : Str), ("InvalidPoint" : Str), ("InvalidPath" : Str), ("InvalidLines" : Str), ("InvalidSystem" : Str), ("InvalidNumber" : Str), ("InvalidPile" : Str), ("InvalidStep" : Str), ("NotAligned" : Str), ("IsApart" : Str), ("NoSystem" : Str), ("TooMany" : Str), ("Stuck" : Str), ("NothingToUndo" : Str), ("ParseError" : Str), ("Router" : Str), ("SIDE" : Str), ("WAYS" : Str)]
theorem run_top (w : World) : HandSHeadRun.RunEq R (PySem.W.view R.prog [61]) hk ob 20000 loose w := by
  intro os
  kernel_rfl
end K21

end
section
/-! The core language: values are PyData; a slot may own a list or dict that is changed. -/
namespace Ap
open PySem

abbrev D := PyData
def lim : Nat := 16777216

/-- an object that is changed -/
inductive MO where
  | lst (ds : List D)
  | dct (kvs : List (List Int × D))
  | dci (kvs : List (Int × D))
  /-- a router: its grid, lines, paths, steps, how many are kept -/
  | rt (g l ro : D) (st : List D) (kp : D)
  /-- a list of lists that are changed -/
  | ll (rows : List (List D))

/-- what belongs to such an object -/
inductive Kd where
  | pl | rt | ll
def MO.kd : MO → Kd
  | .rt .. => .rt
  | .ll _ => .ll
  | _ => .pl

inductive Slot where
  | dat (d : D)
  | own (o : MO)
  | bor (o : MO)
  | fn (k : Nat)
  | scr (ns : List Int)

abbrev Env := List (Option Slot)

inductive Vl where
  | dat (d : D)
  | own (i : Nat)
  | fn (k : Nat)
  | scr (ns : List Int)

inductive R (α : Type) where
  | ok (a : α) (r : Env)
  | exc (c : Nat) (r : Env)
  | bad

def R.bind {α β : Type} (x : R α) (f : α → Env → R β) : R β := match x with
  | .ok a r => f a r
  | .exc c r => .exc c r
  | .bad => .bad
def R.of {α : Type} (o : Option α) (r : Env) : R α := match o with
  | some a => .ok a r
  | none => .bad

@[simp] theorem R.bind_ok {α β : Type} (a : α) (r : Env) (f : α → Env → R β) : (R.ok a r).bind f = f a r := id rfl
@[simp] theorem R.bind_exc {α β : Type} (c : Nat) (r : Env) (f : α → Env → R β) : (R.exc c r : R α).bind f = .exc c r := id rfl
@[simp] theorem R.bind_bad {α β : Type} (f : α → Env → R β) : (R.bad : R α).bind f = .bad := id rfl
@[simp] theorem R.of_some {α : Type} (a : α) (r : Env) : R.of (some a) r = .ok a r := id rfl
@[simp] theorem R.of_none {α : Type} (r : Env) : R.of (none : Option α) r = .bad := id rfl

/-- what a call gives: a result and the borrowed objects behind it -/
inductive FR where
  | ret (d : D) (outs : List Slot)
  | exc (c : Nat) (outs : List Slot)
  | bad

abbrev FnS := List Slot → FR

/-! ### operators -/
inductive Ty where
  | int | bool | tuple | str | list
inductive Op where
  | add | sub | mul | fdiv | mod | pow | neg
  | lt | le | gt | ge | eq | ne | is | isnot | inn | notin
  | len | idx | slc (lo hi : Bool) | rev
  | isi (t : Ty)
  | all | any | sum | min2 | max2 | minl | maxl | sorted
  | tupOf | listOf | addI | mulI | nset | index | count | rngL | rngT | sumL | join | strI | split | intS | tidx | enumL

def smallI (i : Int) : Bool := decide (-18446744073709551616 < i) && decide (i < 18446744073709551616)
/-- factors of a wide product -/
def wideI (i : Int) : Bool := decide (i.natAbs < 2 ^ 400)

def addD : D → D → Option D
  | .int i, .int j => some (.int (i + j))
  | .tuple a, .tuple b => if a.length + b.length ≤ lim then some (.tuple (a ++ b)) else none
  | .list a, .list b => if a.length + b.length ≤ lim then some (.list (a ++ b)) else none
  | .str a, .str b => if a.length + b.length ≤ lim then some (.str (a ++ b)) else none
  | _, _ => none
def subD : D → D → Option D
  | .int i, .int j => some (.int (i - j))
  | _, _ => none
def repD (xs : List D) (k : Int) : List D := (List.replicate k.toNat xs).flatten
def mulD : D → D → Option D
  | .int i, .int j => if smallI i || smallI j || (wideI i && wideI j) then some (.int (i * j)) else none
  | .tuple a, .int k => if k = 1 then some (.tuple a) else if 2 ≤ k ∧ k ≤ 1000 ∧ a.length ≤ 1000 ∧ a ≠ [] then some (.tuple (repD a k)) else none
  | .str a, .int k => if 2 ≤ k ∧ k ≤ 1000 ∧ a.length ≤ 1000 ∧ a.length ≠ 0 then some (.str ⟨(List.replicate k.toNat a.cps).foldl (· ++ ·) #[]⟩) else none
  | .list a, .int k => if -(2 ^ 63) ≤ k ∧ k < 2 ^ 63 ∧ a.length * k.toNat ≤ lim then some (.list (repD a k)) else none
  | _, _ => none
def fdivD : D → D → Option D
  | .int i, .int j => if 0 < j ∧ j.natAbs.log2 < 9000 then some (.int (i / j)) else none
  | _, _ => none
def modD : D → D → Option D
  | .int i, .int j => if 0 < j then some (.int (i % j)) else none
  | _, _ => none
def powD : D → D → Option D
  | .int i, .int j => if 0 ≤ j ∧ j ≤ 1000000 ∧ i.natAbs < 2 ^ 64 then some (.int (i ^ j.toNat)) else none
  | _, _ => none
def negD : D → Option D
  | .int i => some (.int (-i))
  | _ => none
def cmpI (p : Int → Int → Bool) : D → D → Option D
  | .int i, .int j => some (.bool (p i j))
  | _, _ => none
/-- not too deep -/
def okP (d : D) : Bool := decide (d.depth ≤ 64)
def eqD (d e : D) : Option D := if okP d || okP e then some (.bool (PyData.eqv d e)) else none
def neD (d e : D) : Option D := if okP d || okP e then some (.bool (!PyData.eqv d e)) else none
def isNone : D → Bool
  | .none => true
  | _ => false
def isD : D → D → Option D
  | d, .none => some (.bool (isNone d))
  | .bool a, .bool b => some (.bool (decide (a = b)))
  | _, _ => none
def isnotD : D → D → Option D
  | d, .none => some (.bool (!isNone d))
  | .bool a, .bool b => some (.bool (!decide (a = b)))
  | _, _ => none
def hasD (ds : List D) (d : D) : Bool := ds.any fun z => PyData.eqv z d
/-- one sign in a text -/
def signIn (x z : Str) : Option Bool := match x.cps.toList with
  | [c] => some (decide (c ∈ z.cps.toList))
  | _ => none
def inD : D → D → Option Bool
  | .str x, .str z => signIn x z
  | d, .list ds => if okP d || okP (.list ds) then some (hasD ds d) else none
  | d, .tuple ds => if okP d || okP (.tuple ds) then some (hasD ds d) else none
  | _, _ => none
def lenD : D → Option D
  | .list ds => some (.int ds.length)
  | .tuple ds => some (.int ds.length)
  | .str z => if z.length ≤ lim then some (.int z.length) else none
  | _ => none
def idxD : D → D → Option D
  | .list ds, .int i => L2.atI ds i
  | .tuple ds, .int i => L2.atI ds i
  | _, _ => none
def cutD (xs : List D) (lo hi : Option Int) : List D := (xs.drop (HT.sIx xs.length 0 lo)).take (HT.sIx xs.length xs.length hi - HT.sIx xs.length 0 lo)
def slcD (lo hi : Option Int) : D → Option D
  | .list ds => some (.list (cutD ds lo hi))
  | .tuple ds => some (.tuple (cutD ds lo hi))
  | .str z => if z.length ≤ lim then some (.str (L2.cutS z lo hi)) else none
  | _ => none
def revD : D → Option D
  | .list ds => some (.list ds.reverse)
  | .tuple ds => some (.tuple ds.reverse)
  | _ => none
def isiD : Ty → D → Bool
  | .int, .int _ => true
  | .int, .bool _ => true
  | .bool, .bool _ => true
  | .tuple, .tuple _ => true
  | .str, .str _ => true
  | .list, .list _ => true
  | _, _ => false
def boolsD : List D → Option (List Bool)
  | [] => some []
  | .bool b :: r => (boolsD r).map (b :: ·)
  | _ => none
def intsD : List D → Option (List Int)
  | [] => some []
  | .int b :: r => (intsD r).map (b :: ·)
  | _ => none

/-! sorting, least and greatest -/
def alikeB (ds : List D) : Bool := ds.all fun d => ds.all fun e => PySem.W.alike d e
def tupCons : D → Bool
  | .tuple (_ :: _) => true
  | _ => false
def notTupN : D → Bool
  | .none => false
  | .tuple _ => false
  | _ => true
def sortOk (ds : List D) : Bool := alikeB ds && (ds.all tupCons || ds.all notTupN) && decide (PyData.depthAll ds ≤ 60)
/-- insertion, before the first that is not less -/
def insD {α : Type} (le : α → α → Bool) (a : α) : List α → List α
  | [] => [a]
  | b :: l => if le a b then a :: b :: l else b :: insD le a l
def isort {α : Type} (le : α → α → Bool) : List α → List α
  | [] => []
  | a :: l => insD le a (isort le l)
def leD : D → D → Bool := fun a b => !PySem.W.dataLt b a
def sortD (ds : List D) : Option D := if sortOk ds then some (.list (isort leD ds)) else none
def bestOk (ds : List D) : Bool := alikeB ds && ds.all (fun d => !isNone d) && decide (PyData.depthAll ds ≤ 60)
def minO : List D → Option D
  | [] => none
  | d :: ds => if bestOk (d :: ds) then some (PySem.W.minD d ds) else none
def maxO : List D → Option D
  | [] => none
  | d :: ds => if bestOk (d :: ds) then some (PySem.W.maxD d ds) else none
def tupsD : List D → Option (List (List Int))
  | [] => some []
  | .tuple ds :: r => (intsD ds).bind fun n => (tupsD r).map (n :: ·)
  | _ => none
def distinct {α : Type} [DecidableEq α] : List α → List α
  | [] => []
  | a :: l => if a ∈ l then distinct l else a :: distinct l
def nsetD (ds : List D) : Option D := (tupsD ds).bind fun ks => if ks.length < 64 then some (.int (distinct ks).length) else none
def placeD (ds : List D) (d : D) : Option Nat := ds.findIdx? fun y => PyData.eqv y d
def indexD (ds : List D) (d : D) : Option D := if okP d || okP (.list ds) then (placeD ds d).map fun j => .int j else none
def countD (ds : List D) (d : D) : Option D := if okP d || okP (.list ds) then some (.int (ds.countP fun y => PyData.eqv y d)) else none
def rangeD (lo : Int) : Nat → List D
  | 0 => []
  | n + 1 => .int lo :: rangeD (lo + 1) n
def rngO (n : Int) : Option (List D) := if 0 ≤ n ∧ n ≤ 1000000 then some (rangeD 0 n.toNat) else none
def listsD : List D → Option (List (List D))
  | [] => some []
  | .list ds :: r => (listsD r).map (ds :: ·)
  | _ => none
def sumLD (a : List D) : Option D := (listsD a).bind fun ls => if ls.flatten.length ≤ lim then some (.list ls.flatten) else none

/-! texts -/
def strsD : List D → Option (List Str)
  | [] => some []
  | .str x :: r => (strsD r).map (x :: ·)
  | _ => none
def joinD (a : Str) (ds : List D) : Option D := (strsD ds).bind fun ys => if (ys.map (·.length)).sum + ys.length * a.length ≤ 16777216 then some (.str (Txt.join a ys)) else none
def splitD (a b : Str) : Option D := if (b.length == 0) = false ∧ a.length + 2 ≤ lim then some (.list ((Txt.split a b).map .str)) else none

/-- the place of one sign in a text of few -/
def tidxD (a b : Str) : Option D := (PySem.Builtin.Str.occurrences a b 0 a.length 1).head?.map fun j => .int (j : Nat)
def enumN (n : Nat) : List D → List D
  | [] => []
  | d :: ds => .tuple [.int n, d] :: enumN (n + 1) ds
def enumLD (ds : List D) : Option D := if ds.length ≤ 1000 then some (.list (enumN 0 ds)) else none
def prim : Op → List D → Option D
  | .add, [a, b] => addD a b
  | .sub, [a, b] => subD a b
  | .mul, [a, b] => mulD a b
  | .fdiv, [a, b] => fdivD a b
  | .mod, [a, b] => modD a b
  | .pow, [a, b] => powD a b
  | .neg, [a] => negD a
  | .lt, [a, b] => cmpI (fun i j => decide (i < j)) a b
  | .le, [a, b] => cmpI (fun i j => decide (i ≤ j)) a b
  | .gt, [a, b] => cmpI (fun i j => decide (j < i)) a b
  | .ge, [a, b] => cmpI (fun i j => decide (j ≤ i)) a b
  | .eq, [a, b] => eqD a b
  | .ne, [a, b] => neD a b
  | .is, [a, b] => isD a b
  | .isnot, [a, b] => isnotD a b
  | .inn, [a, b] => (inD a b).map .bool
  | .notin, [a, b] => (inD a b).map fun x => .bool (!x)
  | .len, [a] => lenD a
  | .idx, [a, b] => idxD a b
  | .slc false false, [a] => slcD none none a
  | .slc true false, [a, .int i] => slcD (some i) none a
  | .slc false true, [a, .int i] => slcD none (some i) a
  | .slc true true, [a, .int i, .int j] => slcD (some i) (some j) a
  | .rev, [a] => revD a
  | .isi t, [a] => some (.bool (isiD t a))
  | .all, [.list a] => (boolsD a).map fun bs => .bool (bs.all id)
  | .any, [.list a] => (boolsD a).map fun bs => .bool (bs.any id)
  | .sum, [.list a] => (intsD a).map fun bs => .int bs.sum
  | .min2, [.int i, .int j] => some (.int (if j < i then j else i))
  | .max2, [.int i, .int j] => some (.int (if j > i then j else i))
  | .addI, [.int i, .int j] => some (.int (i + j))
  | .mulI, [.int i, .int j] => if smallI i || smallI j then some (.int (i * j)) else none
  | .tupOf, [.list ds] => some (.tuple ds)
  | .tupOf, [.tuple ds] => some (.tuple ds)
  | .listOf, [.list ds] => some (.list ds)
  | .listOf, [.tuple ds] => some (.list ds)
  | .sorted, [.list ds] => sortD ds
  | .sorted, [.tuple ds] => sortD ds
  | .minl, [.list ds] => minO ds
  | .minl, [.tuple ds] => minO ds
  | .maxl, [.list ds] => maxO ds
  | .maxl, [.tuple ds] => maxO ds
  | .nset, [.list ds] => nsetD ds
  | .nset, [.tuple ds] => nsetD ds
  | .index, [.list ds, d] => indexD ds d
  | .index, [.tuple ds, d] => indexD ds d
  | .count, [.list ds, d] => countD ds d
  | .rngL, [.int n] => (rngO n).map .list
  | .rngT, [.int n] => (rngO n).map .tuple
  | .sumL, [.list a] => sumLD a
  | .join, [.str a, .list ds] => joinD a ds
  | .strI, [.int i] => if i.natAbs.log2 < 1920 then some (.str (toString i)) else none
  | .split, [.str a, .str b] => splitD a b
  | .intS, [.str a] => if a.length ≤ 640 then (PySem.intText? a).map .int else none
  | .tidx, [.str a, .str b] => tidxD a b
  | .enumL, [.list ds] => enumLD ds
  | _, _ => none

/-! ### expressions -/
/-- the fields of a router that hold data -/
inductive Fl where
  | grid | lines | routes | kept
def Fl.name : Fl → Str
  | .grid => "grid"
  | .lines => "lines"
  | .routes => "routes"
  | .kept => "kept"
inductive Tg where
  | one (i : Nat)
  | many (is : List Nat)
def Tg.slots : Tg → List Nat
  | .one i => [i]
  | .many is => is

mutual
inductive Ex where
  | var (i : Nat)
  | lit (d : D)
  | glb (x : Str) (d : D)
  | prim (o : Op) (es : List Ex)
  | tup (es : List Ex)
  | lst (es : List Ex)
  | andE (a b : Ex)
  | orE (a b : Ex)
  | notE (a : Ex)
  | ite (c a b : Ex)
  | chain (o p : Op) (a b c : Ex)
  | call (k : Nat) (es : List Ex)
  | lc (elt : Ex) (tg : Tg) (it : It) (cond : List Ex)
  | pop (i : Nat)
  | slen (i : Nat)
  | sidx (i : Nat) (e : Ex)
  | snil (i : Nat)
  | dget (i : Nat) (k e : Ex)
  | didx (i : Nat) (k : Ex)
  | fnv (k : Nat)
  | callV (i : Nat) (ks : List Nat) (es : List Ex)
  | sel (ks : List Nat) (w : Ex) (es : List Ex)
  | mk (k : Nat) (es : List Ex)
  | dvals (i : Nat)
  | dkeys (i : Nat)
  | tix (a b : Ex)
  | fld (i : Nat) (f : Fl)
  | flen (i : Nat)
  | fpop (i : Nat)
  | meth (k i : Nat) (es : List Ex)
  | rlen (k i : Nat)
  | rstr (k i : Nat)
  | req (k i j : Nat) (neg : Bool)
  | reqD (k i : Nat) (e : Ex)
  | isR (i : Nat)
  | mkq (k : Nat) (es es' : List Ex)
  | mkq1 (k : Nat) (es : List Ex) (j : Nat)
  | llast (i k : Nat)
  | lllen (i : Nat)
  | llnil (i j p : Nat)
  | stub
inductive It where
  | seq (e : Ex)
  | rng (es : List Ex)
  | zip (es : List Ex)
  | enum (e : Ex)
  | dwn (e : Ex)
end

def moOf : Option (Option Slot) → Option MO
  | some (some (.own o)) => some o
  | some (some (.bor o)) => some o
  | _ => none
def MO.dat : MO → Option D
  | .lst ds => some (.list ds)
  | _ => none
def view (r : Env) : Vl → Option D
  | .dat d => some d
  | .own i => (moOf r[i]?).bind MO.dat
  | _ => none
def views (r : Env) : List Vl → Option (List D)
  | [] => some []
  | v :: vs => (view r v).bind fun d => (views r vs).map (d :: ·)

def rdVar (r : Env) (i : Nat) : R Vl := match r[i]? with
  | some (some (.dat d)) => .ok (.dat d) r
  | some (some (.own _)) => .ok (.own i) r
  | some (some (.bor _)) => .ok (.own i) r
  | some (some (.fn k)) => .ok (.fn k) r
  | some (some (.scr ns)) => .ok (.scr ns) r
  | _ => .bad

/-- a slot is set to data: it must not be borrowed -/
def isBor : Option (Option Slot) → Bool
  | some (some (.bor _)) => true
  | _ => false
def isMut : Option (Option Slot) → Bool
  | some (some (.bor _)) => true
  | some (some (.own _)) => true
  | _ => false
def setS (r : Env) (i : Nat) (s : Slot) : Option Env := if isBor r[i]? then none else some (r.set i (some s))
def setMany (r : Env) : List Nat → List D → Option Env
  | [], [] => some r
  | i :: is, d :: ds => (setS r i (.dat d)).bind fun r' => setMany r' is ds
  | _, _ => none
def bindTg (r : Env) : Tg → D → Option Env
  | .one i, d => setS r i (.dat d)
  | .many is, .tuple ds => setMany r is ds
  | .many _, _ => none
/-- the slots of a comprehension's own names: forgotten within, as they were behind it -/
def wipeE (r : Env) : List Nat → Env
  | [] => r
  | i :: is => (wipeE r is).set i none
def backE (old r : Env) : List Nat → Env
  | [] => r
  | i :: is => (backE old r is).set i (old[i]?).join
def plainAll (r : Env) (is : List Nat) : Bool := is.all fun i => !isMut r[i]?

/-- arguments of a call: the slots that the def gets -/
def argOf (r : Env) : Vl → Option Slot
  | .dat d => some (.dat d)
  | .own i => (moOf r[i]?).map .bor
  | .fn k => some (.fn k)
  | .scr ns => some (.scr ns)
def argsOf (r : Env) : List Vl → Option (List Slot)
  | [] => some []
  | v :: vs => (argOf r v).bind fun s => (argsOf r vs).map (s :: ·)
def ownIx : List Vl → List Nat
  | [] => []
  | .own i :: r => i :: ownIx r
  | _ :: r => ownIx r
/-- what a borrowed object has become -/
def putMo (r : Env) (i : Nat) (o : MO) : Env := match r[i]? with
  | some (some (.own _)) => r.set i (some (.own o))
  | some (some (.bor _)) => r.set i (some (.bor o))
  | _ => r
def writeBack (r : Env) : List Vl → List Slot → Env
  | .own i :: vs, .bor o :: ss => writeBack (putMo r i o) vs ss
  | _ :: vs, _ :: ss => writeBack r vs ss
  | _, _ => r
def callR (f : FnS) (vs : List Vl) (r : Env) : R Vl :=
  match argsOf r vs with
  | none => .bad
  | some as => if (ownIx vs).Nodup then (match f as with
    | .ret d outs => .ok (.dat d) (writeBack r vs outs)
    | .exc c outs => .exc c (writeBack r vs outs)
    | .bad => .bad) else .bad

def lcGo (f : D → Env → R (Option D)) : List D → List D → Env → R (List D)
  | [], acc, r => .ok acc r
  | d :: ds, acc, r => (f d r).bind fun o r' => lcGo f ds (acc ++ o.toList) r'
def noExc {α : Type} : R α → R α
  | .exc _ _ => .bad
  | x => x
def asBool (v : Vl) (r : Env) : R Bool := match v with
  | .dat (.bool b) => .ok b r
  | _ => .bad
def asDat (v : Vl) (r : Env) : R D := match v with
  | .dat d => .ok d r
  | _ => .bad
def asDats (r : Env) : List Vl → Option (List D)
  | [] => some []
  | .dat d :: vs => (asDats r vs).map (d :: ·)
  | _ => none
/-- the items of what is walked; an owned list is frozen by that -/
def itemsD : D → Option (List D)
  | .list ds => some ds
  | .tuple ds => some ds
  | .str z => if z.length ≤ lim then some (z.cps.toList.map fun c => .str ⟨#[c]⟩) else none
  | _ => none
def frz (r : Env) : Vl → R D
  | .dat d => .ok d r
  | .own i => match r[i]? with
    | some (some (.own (.lst ds))) => .ok (.list ds) (r.set i (some (.dat (.list ds))))
    | some (some (.own (.ll rows))) => .ok (.list (rows.map .list)) (r.set i (some (.dat (.list (rows.map .list)))))
    | _ => .bad
  | _ => .bad
/-- .. of several -/
def frzs (r : Env) : List Vl → R (List D)
  | [] => .ok [] r
  | v :: vs => (frz r v).bind fun d r1 => (frzs r1 vs).bind fun ds r2 => .ok (d :: ds) r2
def inR (i : Int) : Bool := decide (-4611686018427387904 ≤ i) && decide (i < 4611686018427387904)
def rngItems : List D → Option (List D)
  | [.int j] => if inR j && decide (j.toNat ≤ lim) then some (rangeD 0 j.toNat) else none
  | [.int i, .int j] => if inR i && inR j && decide ((j - i).toNat ≤ lim) then some (rangeD i (j - i).toNat) else none
  | _ => none
/-- range(i, -1, -1) -/
def downD : Nat → List D
  | 0 => []
  | n + 1 => .int n :: downD n
def dwnItems : D → Option (List D)
  | .int i => if inR i && decide (-1 ≤ i) && decide ((i + 1).toNat ≤ lim) then some (downD (i + 1).toNat) else none
  | _ => none
def zip2 : List D → List D → List D
  | a :: as, b :: bs => .tuple [a, b] :: zip2 as bs
  | _, _ => []
def zip3 : List D → List D → List D → List D
  | a :: as, b :: bs, c :: cs => .tuple [a, b, c] :: zip3 as bs cs
  | _, _, _ => []
def enumFrom (n : Nat) : List D → List D
  | [] => []
  | d :: ds => .tuple [.int n, d] :: enumFrom (n + 1) ds
def seqD : D → Option (List D)
  | .list ds => some ds
  | .tuple ds => some ds
  | _ => none
def zipItems : List D → Option (List D)
  | [a, b] => (seqD a).bind fun x => (seqD b).map fun y => zip2 x y
  | [a, b, c] => (seqD a).bind fun x => (seqD b).bind fun y => (seqD c).map fun z => zip3 x y z
  | _ => none
def enumItems (d : D) : Option (List D) := (seqD d).map (enumFrom 0)
def popL (r : Env) (i : Nat) : R Vl := match moOf r[i]? with
  | some (.lst ds) => match ds.getLast? with
    | some d => .ok (.dat d) (putMo r i (.lst ds.dropLast))
    | none => .bad
  | _ => .bad

/-! dicts -/
def dkey : D → Option (List Int)
  | .tuple ds => intsD ds
  | _ => none
def valI {κ : Type} [DecidableEq κ] (kvs : List (κ × D)) (k : κ) : Option D := (kvs.find? fun kv => decide (kv.1 = k)).map (·.2)
def putI {κ : Type} [DecidableEq κ] (kvs : List (κ × D)) (k : κ) (v : D) : List (κ × D) :=
  if (kvs.any fun kv => decide (kv.1 = k)) = true then kvs.map (fun kv => if kv.1 = k then (kv.1, v) else kv) else kvs ++ [(k, v)]
def dgetM : MO → D → Option (Option D)
  | .dct kvs, d => (dkey d).map (valI kvs)
  | .dci kvs, .int i => some (valI kvs i)
  | _, _ => none
def dputM : MO → D → D → Option MO
  | .dct kvs, d, v => (dkey d).bind fun k => if kvs.length < lim then some (.dct (putI kvs k v)) else none
  | .dci kvs, .int i, v => if kvs.length < lim then some (.dci (putI kvs i v)) else none
  | _, _, _ => none
def isDct : Option MO → Bool
  | some (.dct _) => true
  | some (.dci _) => true
  | _ => false
def scrAt (r : Env) (i : Nat) : Option (List Int) := match r[i]? with
  | some (some (.scr ns)) => some ns
  | _ => none
def scrIx (ns : List Int) : D → Option Int
  | .int i => if 0 ≤ i then ns[i.toNat]? else none
  | _ => none

/-- a slot that holds a def; one of several defs -/
def fnAt (r : Env) (i : Nat) : Option Nat := match r[i]? with
  | some (some (.fn k)) => some k
  | _ => none
def selK (ks : List Nat) : D → Option Nat
  | .int i => if 0 ≤ i then ks[i.toNat]? else none
  | _ => none
def inK (ks : List Nat) (o : Option Nat) : Option Nat := o.bind fun k => if k ∈ ks then some k else none

/-- a class is called, and its __init__ raises -/
def mkR (r : Env) : FR → R Vl
  | .exc c _ => .exc c r
  | _ => .bad
/-- the place of an item in a tuple that holds more than ints and texts -/
def plD : D → Bool
  | .int _ => true
  | .str _ => true
  | _ => false
def tixT : D → Option (List D)
  | .tuple ds => if ds.all plD then none else some ds
  | _ => none
def indexT (ds : List D) (d : D) : Option D := if SeqAt.shaped (.list ds) && SeqAt.shaped d then (placeD ds d).map fun j : Nat => .int (j : Nat) else none
/-! routers -/
def fldM (f : Fl) : MO → Option D
  | .rt g l ro _ kp => some (match f with
    | .grid => g
    | .lines => l
    | .routes => ro
    | .kept => kp)
  | _ => none
def stM : MO → Option (List D)
  | .rt _ _ _ st _ => some st
  | _ => none
def isRt : Option MO → Bool
  | some (.rt ..) => true
  | _ => false
def setFM (f : Fl) (d : D) : MO → Option MO
  | .rt g l ro st kp => some (match f with
    | .grid => .rt d l ro st kp
    | .lines => .rt g d ro st kp
    | .routes => .rt g l d st kp
    | .kept => .rt g l ro st d)
  | _ => none
def fpopL (r : Env) (i : Nat) : R Vl := match moOf r[i]? with
  | some (.rt g l ro st kp) => (match st.getLast? with
    | some d => .ok (.dat d) (putMo r i (.rt g l ro st.dropLast kp))
    | none => .bad)
  | _ => .bad
def fappD (r : Env) (i : Nat) (d : D) : Option Env := match moOf r[i]? with
  | some (.rt g l ro st kp) => if st.length < lim then some (putMo r i (.rt g l ro (st ++ [d]) kp)) else none
  | _ => none
def setfD (r : Env) (i : Nat) (f : Fl) (d : D) : Option Env := (moOf r[i]?).bind fun o => (setFM f d o).map fun o' => putMo r i o'
/-- a method's result as a length, a text, a truth -/
def asLen : R Vl → R Vl
  | .ok (.dat (.int n)) r => if 0 ≤ n ∧ n < 1000000 then .ok (.dat (.int n)) r else .bad
  | _ => .bad
def asTxt : R Vl → R Vl
  | .ok (.dat (.str n)) r => .ok (.dat (.str n)) r
  | _ => .bad
def asTruth (neg : Bool) : R Vl → R Vl
  | .ok (.dat (.bool b)) r => .ok (.dat (.bool (b != neg))) r
  | _ => .bad
def isRO : Option (Option Slot) → Option Bool
  | some (some (.own (.rt ..))) => some true
  | some (some (.bor (.rt ..))) => some true
  | some (some (.dat _)) => some false
  | _ => none
/-- a new router -/
def newRt (ds : List D) : FR → Option MO
  | .ret ro _ => (match ds with
    | [g, l] => some (.rt g l ro [] (.int 0))
    | _ => none)
  | _ => none
def mkqR (f : FnS) (a b : Option MO) : Option D := a.bind fun x => b.bind fun y => match f [.bor x, .bor y] with
  | .ret (.bool d) _ => some (.bool d)
  | _ => none
/-! a list of lists -/
def llM : MO → Option (List (List D))
  | .ll rows => some rows
  | _ => none
def llRow (rows : List (List D)) : D → Option (List D)
  | .int j => L2.atI rows j
  | _ => none
def llappD (r : Env) (i : Nat) (k d : D) : Option Env := match moOf r[i]?, k with
  | some (.ll rows), .int j => (L2.ixN rows.length j).bind fun n => (rows[n]?).bind fun row => if row.length < lim then some (putMo r i (.ll (rows.set n (row ++ [d])))) else none
  | _, _ => none
/-- the values of a dict; its keys, sorted -/
def dvalsM : MO → Option D
  | .dci kvs => if kvs.length ≤ lim then some (.list (kvs.map (·.2))) else none
  | _ => none
def dkeysM : MO → Option D
  | .dci kvs => if kvs.length < 64 then some (.list ((isort (fun a b : Int => decide (a ≤ b)) (kvs.map (·.1))).map .int)) else none
  | _ => none

def isNilS (r : Env) (i : Nat) : Bool := match r[i]? with
  | some none => true
  | _ => false
mutual
def ev (F : Nat → FnS) : Ex → Env → R Vl
  | .var i, r => rdVar r i
  | .lit d, r => .ok (.dat d) r
  | .glb _ d, r => .ok (.dat d) r
  | .prim o es, r => (evs F es r).bind fun vs r1 => (R.of (views r1 vs) r1).bind fun ds _ => (R.of (prim o ds) r1).bind fun d _ => .ok (.dat d) r1
  | .tup es, r => (evs F es r).bind fun vs r1 => (R.of (asDats r1 vs) r1).bind fun ds _ => if ds.length ≤ lim then .ok (.dat (.tuple ds)) r1 else .bad
  | .lst es, r => (evs F es r).bind fun vs r1 => (R.of (asDats r1 vs) r1).bind fun ds _ => if ds.length ≤ lim then .ok (.dat (.list ds)) r1 else .bad
  | .andE a b, r => (ev F a r).bind fun v r1 => (asBool v r1).bind fun x _ => if x then ev F b r1 else .ok (.dat (.bool false)) r1
  | .orE a b, r => (ev F a r).bind fun v r1 => (asBool v r1).bind fun x _ => if x then .ok (.dat (.bool true)) r1 else ev F b r1
  | .notE a, r => (ev F a r).bind fun v r1 => (asBool v r1).bind fun x _ => .ok (.dat (.bool (!x))) r1
  | .ite c a b, r => (ev F c r).bind fun v r1 => (asBool v r1).bind fun x _ => if x then ev F a r1 else ev F b r1
  | .chain o p a b c, r => (ev F a r).bind fun va r1 => (ev F b r1).bind fun vb r2 =>
      (R.of (views r2 [va, vb]) r2).bind fun ds _ => (R.of (prim o ds) r2).bind fun d _ => (asBool (.dat d) r2).bind fun x _ =>
        if x then (ev F c r2).bind fun vc r3 => (R.of (views r3 [vb, vc]) r3).bind fun es _ => (R.of (prim p es) r3).bind fun e _ => .ok (.dat e) r3
        else .ok (.dat (.bool false)) r2
  | .call k es, r => (evs F es r).bind fun vs r1 => callR (F k) vs r1
  | .lc elt tg it cond, r => (evIt F it r).bind fun ds r1 =>
      if plainAll r1 tg.slots then
        (noExc (lcGo (fun d q => (R.of (bindTg (wipeE q tg.slots) tg d) q).bind fun q1 _ => (evc F cond q1).bind fun x q2 =>
          if x then (ev F elt q2).bind fun v q3 => (asDat v q3).bind fun y _ => .ok (some y) q3 else .ok none q2) ds [] r1)).bind
        fun ys r2 => .ok (.dat (.list ys)) (backE r1 r2 tg.slots)
      else .bad
  | .pop i, r => popL r i
  | .slen i, r => (R.of (scrAt r i) r).bind fun ns _ => .ok (.dat (.int ns.length)) r
  | .sidx i e, r => (R.of (scrAt r i) r).bind fun ns _ => (ev F e r).bind fun v r1 => (asDat v r1).bind fun d _ => (R.of (scrIx ns d) r1).bind fun k _ => .ok (.dat (.int k)) r1
  | .snil i, r => (R.of (scrAt r i) r).bind fun ns _ => .ok (.dat (.bool ns.isEmpty)) r
  | .dget i k e, r => if isDct (moOf r[i]?) then (ev F k r).bind fun vk r1 => (asDat vk r1).bind fun kd _ => (ev F e r1).bind fun ve r2 => (asDat ve r2).bind fun ed _ => (R.of ((moOf r2[i]?).bind (dgetM · kd)) r2).bind fun od _ => .ok (.dat (od.getD ed)) r2 else .bad
  | .didx i k, r => if isDct (moOf r[i]?) then (ev F k r).bind fun vk r1 => (asDat vk r1).bind fun kd _ => (R.of (((moOf r1[i]?).bind (dgetM · kd)).join) r1).bind fun d _ => .ok (.dat d) r1 else .bad
  | .fnv k, r => .ok (.fn k) r
  | .callV i ks es, r => (R.of (inK ks (fnAt r i)) r).bind fun k _ => (evs F es r).bind fun vs r1 => callR (F k) vs r1
  | .sel ks w es, r => (ev F w r).bind fun v r1 => (asDat v r1).bind fun d _ => (R.of (selK ks d) r1).bind fun k _ => (evs F es r1).bind fun vs r2 => callR (F k) vs r2
  | .mk k es, r => (evs F es r).bind fun vs r1 => (R.of (asDats r1 vs) r1).bind fun ds _ => mkR r1 (F k (ds.map .dat))
  | .dvals i, r => (R.of ((moOf r[i]?).bind dvalsM) r).bind fun d _ => .ok (.dat d) r
  | .tix a b, r => (ev F a r).bind fun v r1 => (asDat v r1).bind fun d _ => (R.of (tixT d) r1).bind fun ds _ => (ev F b r1).bind fun w r2 => (asDat w r2).bind fun x _ => (R.of (indexT ds x) r2).bind fun i _ => .ok (.dat i) r2
  | .dkeys i, r => (R.of ((moOf r[i]?).bind dkeysM) r).bind fun d _ => .ok (.dat d) r
  | .fld i f, r => (R.of ((moOf r[i]?).bind (fldM f)) r).bind fun d _ => .ok (.dat d) r
  | .flen i, r => (R.of ((moOf r[i]?).bind stM) r).bind fun st _ => .ok (.dat (.int st.length)) r
  | .fpop i, r => fpopL r i
  | .meth k i es, r => if isRt (moOf r[i]?) then (evs F es r).bind fun vs r1 => if isRt (moOf r1[i]?) then callR (F k) (.own i :: vs) r1 else .bad else .bad
  | .rlen k i, r => if isRt (moOf r[i]?) then asLen (callR (F k) [.own i] r) else .bad
  | .rstr k i, r => if isRt (moOf r[i]?) then asTxt (callR (F k) [.own i] r) else .bad
  | .req k i j neg, r => if isRt (moOf r[i]?) && isRt (moOf r[j]?) then asTruth neg (callR (F k) [.own i, .own j] r) else .bad
  | .reqD k i e, r => if isRt (moOf r[i]?) then (ev F e r).bind fun v r1 => (asDat v r1).bind fun d _ => if isRt (moOf r1[i]?) then asTruth false (callR (F k) [.own i, .dat d] r1) else .bad else .bad
  | .isR i, r => (R.of (isRO r[i]?) r).bind fun b _ => .ok (.dat (.bool b)) r
  | .mkq k es es', r => (evs F es r).bind fun vs r1 => (R.of (asDats r1 vs) r1).bind fun ds _ => (R.of (newRt ds (F 900 (ds.map .dat))) r1).bind fun a _ => (evs F es' r1).bind fun ws r2 => (R.of (asDats r2 ws) r2).bind fun ds' _ => (R.of (mkqR (F k) (some a) (newRt ds' (F 900 (ds'.map .dat)))) r2).bind fun d _ => .ok (.dat d) r2
  | .mkq1 k es j, r => (evs F es r).bind fun vs r1 => (R.of (asDats r1 vs) r1).bind fun ds _ => (R.of (newRt ds (F 900 (ds.map .dat))) r1).bind fun a _ => if isRt (moOf r1[j]?) then (R.of (mkqR (F k) (some a) (moOf r1[j]?)) r1).bind fun d _ => .ok (.dat d) r1 else .bad
  | .llast i k, r => (R.of ((moOf r[i]?).bind llM) r).bind fun rows _ => (rdVar r k).bind fun v _ => (asDat v r).bind fun k _ => (R.of ((llRow rows k).bind fun row => row.getLast?) r).bind fun d _ => .ok (.dat d) r
  | .lllen i, r => (R.of ((moOf r[i]?).bind llM) r).bind fun rows _ => .ok (.dat (.int rows.length)) r
  | .llnil i j p, r => (R.of ((moOf r[i]?).bind llM) r).bind fun rows _ => (rdVar r p).bind fun v _ => (asDat v r).bind fun d _ => if isNilS r j && okP d then .ok (.dat (.bool (rows.all fun row => !hasD row d))) r else .bad
  | .stub, _ => .bad
def evs (F : Nat → FnS) : List Ex → Env → R (List Vl)
  | [], r => .ok [] r
  | e :: es, r => (ev F e r).bind fun v r1 => (evs F es r1).bind fun vs r2 => .ok (v :: vs) r2
def evc (F : Nat → FnS) : List Ex → Env → R Bool
  | [], r => .ok true r
  | [e], r => (ev F e r).bind fun v r1 => asBool v r1
  | _ :: _ :: _, _ => .bad
def evIt (F : Nat → FnS) : It → Env → R (List D)
  | .seq e, r => (ev F e r).bind fun v r1 => (frz r1 v).bind fun d r2 => (R.of (itemsD d) r2)
  | .rng es, r => (evs F es r).bind fun vs r1 => (R.of (asDats r1 vs) r1).bind fun ds _ => R.of (rngItems ds) r1
  | .zip es, r => (evs F es r).bind fun vs r1 => (frzs r1 vs).bind fun ds r2 => R.of (zipItems ds) r2
  | .enum e, r => (ev F e r).bind fun v r1 => (frz r1 v).bind fun d r2 => (R.of (enumItems d) r2)
  | .dwn e, r => (ev F e r).bind fun v r1 => (asDat v r1).bind fun d _ => R.of (dwnItems d) r1
end

/-! ### statements -/
inductive RS where
  | nx (r : Env)
  | ret (d : D) (r : Env)
  | brk (r : Env)
  | cnt (r : Env)
  | exc (c : Nat) (r : Env)
  | bad
def R.st {α : Type} (x : R α) (f : α → Env → RS) : RS := match x with
  | .ok a r => f a r
  | .exc c r => .exc c r
  | .bad => .bad
def RS.bind (x : RS) (f : Env → RS) : RS := match x with
  | .nx r => f r
  | y => y
@[simp] theorem R.st_ok {α : Type} (a : α) (r : Env) (f : α → Env → RS) : (R.ok a r).st f = f a r := id rfl
@[simp] theorem R.st_exc {α : Type} (c : Nat) (r : Env) (f : α → Env → RS) : (R.exc c r : R α).st f = .exc c r := id rfl
@[simp] theorem R.st_bad {α : Type} (f : α → Env → RS) : (R.bad : R α).st f = .bad := id rfl
@[simp] theorem RS.bind_nx (r : Env) (f : Env → RS) : (RS.nx r).bind f = f r := id rfl
@[simp] theorem RS.bind_ret (d : D) (r : Env) (f : Env → RS) : (RS.ret d r).bind f = .ret d r := id rfl
@[simp] theorem RS.bind_brk (r : Env) (f : Env → RS) : (RS.brk r).bind f = .brk r := id rfl
@[simp] theorem RS.bind_cnt (r : Env) (f : Env → RS) : (RS.cnt r).bind f = .cnt r := id rfl
@[simp] theorem RS.bind_exc (c : Nat) (r : Env) (f : Env → RS) : (RS.exc c r).bind f = .exc c r := id rfl
@[simp] theorem RS.bind_bad (f : Env → RS) : RS.bad.bind f = .bad := id rfl

inductive Sm where
  | asg (tg : Tg) (e : Ex)
  | asgL (is : List Nat) (e : Ex)
  | new (i : Nat) (e : Ex)
  | par (i j : Nat) (oi oj : Bool) (a b : Ex)
  | par3 (i j l : Nat) (a b c : Ex)
  | aug (o : Op) (i : Nat) (e : Ex)
  | app (i : Nat) (e : Ex)
  | ext (i : Nat) (e : Ex)
  | rem (i : Nat) (e : Ex)
  | seti (i : Nat) (k e : Ex)
  | newD (i : Nat) (int : Bool)
  | newD1 (i : Nat) (k e : Ex)
  | dput (i : Nat) (k e : Ex)
  | exp (e : Ex)
  | ret (e : Ex)
  | ite (c : Ex) (a b : List Sm)
  | forS (tg : Tg) (it : It) (b : List Sm)
  | whl (n : Nat) (c : Ex) (b : List Sm)
  | brk
  | cnt
  | pass
  | raise (c : Nat)
  | ask (i : Nat) (b : List Sm)
  | askO (i : Nat) (b : List Sm)
  | selS (i : Nat) (ks : List Nat) (w : Ex) (es : List Ex)
  | put2 (i s j ri : Nat) (c1 c2 v : Int)
  | mkS (i : Nat) (es : List Ex)
  | setf (i : Nat) (f : Fl) (e : Ex)
  | fapp (i n : Nat)
  | dupS (i j : Nat)
  | newLL (i j s ri : Nat)
  | llapp (i k p : Nat)
  | stub

/-- x = v: data are set; an owned list moves -/
def assignV (r : Env) (tg : Tg) (v : Vl) : Option Env := match v, tg with
  | .dat d, tg => bindTg r tg d
  | .own i, .one j => match r[i]? with
    | some (some (.own o)) => setS (r.set i none) j (.own o)
    | _ => none
  | .fn k, .one j => setS r j (.fn k)
  | _, _ => none
/-- a, b = a list -/
def unL (r : Env) (is : List Nat) : D → Option Env
  | .list ds => setMany r is ds
  | _ => none
def ownMO : D → Option MO
  | .list ds => some (.lst ds)
  | _ => none
def appD (r : Env) (i : Nat) (d : D) : Option Env := match moOf r[i]? with
  | some (.lst ds) => if ds.length < lim then some (putMo r i (.lst (ds ++ [d]))) else none
  | _ => none
def extD (r : Env) (i : Nat) (d : D) : Option Env := match moOf r[i]?, d with
  | some (.lst ds), .list es => if ds.length + es.length ≤ lim then some (putMo r i (.lst (ds ++ es))) else none
  | _, _ => none
def remD (r : Env) (i : Nat) (d : D) : Option Env := match moOf r[i]? with
  | some (.lst ds) => if okP (.list ds) || okP d then (ds.findIdx? fun y => PyData.eqv y d).map fun j => putMo r i (.lst (ds.eraseIdx j)) else none
  | _ => none
def setiD (r : Env) (i : Nat) (k d : D) : Option Env := match moOf r[i]?, k with
  | some (.lst ds), .int j => (L2.ixN ds.length j).map fun n => putMo r i (.lst (ds.set n d))
  | _, _ => none
def isLst (r : Env) (i : Nat) : Bool := match moOf r[i]? with
  | some (.lst _) => true
  | _ => false
def RS.of (o : Option Env) : RS := match o with
  | some r => .nx r
  | none => .bad
@[simp] theorem RS.of_some (r : Env) : RS.of (some r) = .nx r := id rfl
@[simp] theorem RS.of_none : RS.of none = .bad := id rfl

/-- a returned owned list is frozen -/
def retV (r : Env) : Vl → RS
  | .dat d => .ret d r
  | .own i => match r[i]? with
    | some (some (.own (.lst ds))) => .ret (.list ds) r
    | _ => .bad
  | _ => .bad
def forGo (b : D → Env → RS) : List D → Env → RS
  | [], r => .nx r
  | d :: ds, r => match b d r with
    | .nx r1 => forGo b ds r1
    | .cnt r1 => forGo b ds r1
    | .brk r1 => .nx r1
    | x => x
def whlGo (c : Env → R Bool) (b : Env → RS) : Nat → Env → RS
  | 0, _ => .bad
  | n + 1, r => (c r).st fun x r1 => if x then (match b r1 with
    | .nx r2 => whlGo c b n r2
    | .cnt r2 => whlGo c b n r2
    | .brk r2 => .nx r2
    | y => y) else .nx r1
def shp : Bool → Vl → Bool
  | true, .dat (.list _) => true
  | false, .dat _ => true
  | _, _ => false
def parOne (r : Env) (i : Nat) (o : Bool) (v : Vl) : Option Env := if o then (match v with
    | .dat d => (ownMO d).bind fun m => setS r i (.own m)
    | _ => none) else (match v with
    | .dat d => setS r i (.dat d)
    | _ => none)

def isNil (r : Env) (i : Nat) : Bool := match r[i]? with
  | some none => true
  | _ => false
def rowsD : List D → Option (List (List D))
  | [] => some []
  | d :: ds => (seqD d).bind fun x => (rowsD ds).map (x :: ·)
/-- x = [list(row) for row in src]; x[a][b] = e -/
def put2D (d a b x : D) : Option D := match a, b with
  | .int a, .int b => (seqD d).bind fun ds => (rowsD ds).bind fun rs => (L2.ixN rs.length a).bind fun m => (rs[m]?).bind fun row => (L2.ixN row.length b).map fun n => .list ((rs.set m (row.set n x)).map .list)
  | _, _ => none
def put2P (d pd : D) (c1 c2 v : Int) : Option D := (idxD pd (.int c1)).bind fun a => (idxD pd (.int c2)).bind fun b => put2D d a b (.int v)
/-- what the law tells of an exception -/
def askR (i : Nat) : RS → RS
  | .exc c r => if 1 ≤ c ∧ c ≤ 15 ∧ i < r.length then .ret (.tuple [.str "raised", .int ((c - 1 : Nat) : Int)]) r else .bad
  | x => x
@[simp] theorem askR_nx (i : Nat) (r : Env) : askR i (.nx r) = .nx r := id rfl
@[simp] theorem askR_ret (i : Nat) (d : D) (r : Env) : askR i (.ret d r) = .ret d r := id rfl
@[simp] theorem askR_bad (i : Nat) : askR i .bad = .bad := id rfl
theorem askR_exc {i c : Nat} {r : Env} (h : 1 ≤ c ∧ c ≤ 15 ∧ i < r.length) : askR i (.exc c r) = .ret (.tuple [.str "raised", .int ((c - 1 : Nat) : Int)]) r := if_pos h
/-- the same with NotOpen, number 16, asked for first -/
def askO (i : Nat) : RS → RS
  | .exc c r => if c = 16 then .ret (.tuple [.str "raised", .int 15]) r else if 1 ≤ c ∧ c ≤ 15 ∧ i < r.length then .ret (.tuple [.str "raised", .int ((c - 1 : Nat) : Int)]) r else .bad
  | x => x
@[simp] theorem askO_nx (i : Nat) (r : Env) : askO i (.nx r) = .nx r := id rfl
@[simp] theorem askO_ret (i : Nat) (d : D) (r : Env) : askO i (.ret d r) = .ret d r := id rfl
@[simp] theorem askO_bad (i : Nat) : askO i .bad = .bad := id rfl
theorem askO_exc {i c : Nat} {r : Env} (h : 1 ≤ c ∧ c ≤ 15 ∧ i < r.length) : askO i (.exc c r) = .ret (.tuple [.str "raised", .int ((c - 1 : Nat) : Int)]) r := (if_neg (by omega)).trans (if_pos h)
theorem askO_open {i : Nat} {r : Env} : askO i (.exc 16 r) = .ret (.tuple [.str "raised", .int 15]) r := id rfl

def mkRt (r : Env) (i : Nat) (ds : List D) (x : FR) : RS := match ds with
  | [g, l] => (match x with
    | .exc c _ => .exc c r
    | x => RS.of ((newRt [g, l] x).bind fun o => setS r i (.own o)))
  | _ => .bad
def dupR (r : Env) (i : Nat) (o : MO) (F : Nat → FnS) : Option Env := match o with
  | .rt g l ro st _ => (newRt [g, l] (F 900 [.dat g, .dat l])).bind fun _ => if st.length ≤ lim then setS r i (.own (.rt g l ro st (.int st.length))) else none
  | _ => none
mutual
def run (F : Nat → FnS) : Sm → Env → RS
  | .asg tg e, r => (ev F e r).st fun v r1 => RS.of (assignV r1 tg v)
  | .asgL is e, r => (ev F e r).st fun v r1 => (asDat v r1).st fun d _ => RS.of (unL r1 is d)
  | .new i e, r => (ev F e r).st fun v r1 => (asDat v r1).st fun d _ => RS.of ((ownMO d).bind fun o => setS r1 i (.own o))
  | .par i j oi oj a b, r => (ev F a r).st fun v r1 => if shp oi v then (ev F b r1).st fun w r2 => if shp oj w then RS.of ((parOne r2 i oi v).bind fun r3 => parOne r3 j oj w) else .bad else .bad
  | .par3 i j l a b c, r => (ev F a r).st fun v r1 => (asDat v r1).st fun d1 _ => (ev F b r1).st fun w r2 => (asDat w r2).st fun d2 _ => (ev F c r2).st fun u r3 => (asDat u r3).st fun d3 _ => RS.of ((setS r3 i (.dat d1)).bind fun r4 => (setS r4 j (.dat d2)).bind fun r5 => setS r5 l (.dat d3))
  | .aug o i e, r => (rdVar r i).st fun v _ => (ev F e r).st fun w r1 => (R.of (views r1 [v, w]) r1).st fun ds _ => (R.of (prim o ds) r1).st fun d _ => RS.of (setS r1 i (.dat d))
  | .app i e, r => if isLst r i then (ev F e r).st fun v r1 => (asDat v r1).st fun d _ => RS.of (appD r1 i d) else .bad
  | .ext i e, r => if isLst r i then (ev F e r).st fun v r1 => (asDat v r1).st fun d _ => RS.of (extD r1 i d) else .bad
  | .rem i e, r => if isLst r i then (ev F e r).st fun v r1 => (asDat v r1).st fun d _ => RS.of (remD r1 i d) else .bad
  | .seti i k e, r => (ev F e r).st fun v r1 => (asDat v r1).st fun d _ => if isLst r1 i then (ev F k r1).st fun w r2 => (asDat w r2).st fun kd _ => RS.of (setiD r2 i kd d) else .bad
  | .newD i b, r => RS.of (setS r i (.own (if b then .dci [] else .dct [])))
  | .newD1 i k e, r => (ev F k r).st fun vk r1 => (asDat vk r1).st fun kd _ => (ev F e r1).st fun ve r2 => (asDat ve r2).st fun d _ => RS.of ((dkey kd).bind fun key => setS r2 i (.own (.dct [(key, d)])))
  | .dput i k e, r => (ev F e r).st fun v r1 => (asDat v r1).st fun d _ => if isDct (moOf r1[i]?) then (ev F k r1).st fun w r2 => (asDat w r2).st fun kd _ => RS.of ((moOf r2[i]?).bind fun o => (dputM o kd d).map fun o' => putMo r2 i o') else .bad
  | .exp e, r => (ev F e r).st fun _ r1 => .nx r1
  | .ret e, r => (ev F e r).st fun v r1 => retV r1 v
  | .ite c a b, r => (ev F c r).st fun v r1 => (asBool v r1).st fun x _ => if x then runs F a r1 else runs F b r1
  | .forS tg it b, r => (evIt F it r).st fun ds r1 => forGo (fun d q => (R.of (bindTg q tg d) q).st fun q1 _ => runs F b q1) ds r1
  | .whl n c b, r => whlGo (fun q => (ev F c q).bind asBool) (runs F b) n r
  | .brk, r => .brk r
  | .cnt, r => .cnt r
  | .pass, r => .nx r
  | .raise c, r => .exc c r
  | .ask i b, r => askR i (runs F b r)
  | .askO i b, r => askO i (runs F b r)
  | .selS i ks w es, r => if isNil r i then (ev F (.sel ks w es) r).st fun v r1 => retV r1 v else .bad
  | .put2 i s j ri c1 c2 v, r => if isNil r i && decide (ri < r.length) then (rdVar r s).st fun a _ => (asDat a r).st fun d _ => (rdVar r j).st fun u _ => (R.of (view r u) r).st fun pd _ => (R.of (put2P d pd c1 c2 v) r).st fun z _ => RS.of (setS r i (.dat z)) else .bad
  | .mkS i es, r => (evs F es r).st fun vs r1 => (R.of (asDats r1 vs) r1).st fun ds _ => mkRt r1 i ds (F 900 (ds.map .dat))
  | .setf i f e, r => (ev F e r).st fun v r1 => (asDat v r1).st fun d _ => RS.of (setfD r1 i f d)
  | .fapp i n, r => (rdVar r n).st fun v _ => (asDat v r).st fun d _ => RS.of (fappD r i d)
  | .dupS i j, r => RS.of ((moOf r[j]?).bind fun o => dupR r i o F)
  | .newLL i j s ri, r => if isNil r i && isNil r j && decide (ri < r.length) && decide (i ≠ j) then (rdVar r s).st fun a _ => (asDat a r).st fun d _ => RS.of ((seqD d).bind fun ds => (rowsD ds).bind fun rows => (setS r i (.own (.ll rows))).bind fun r1 => setS r1 j (.own (.lst []))) else .bad
  | .llapp i k p, r => (rdVar r k).st fun v _ => (asDat v r).st fun j _ => (rdVar r p).st fun w _ => (asDat w r).st fun d _ => RS.of (llappD r i j d)
  | .stub, _ => .bad
def runs (F : Nat → FnS) : List Sm → Env → RS
  | [], r => .nx r
  | s :: ss, r => (run F s r).bind fun r1 => runs F ss r1
end

/-- a def: n slots in all, its body -/
def outsOf (n : Nat) (r : Env) : List Slot := (r.take n).map fun s => s.getD (.dat .none)
def defR (F : Nat → FnS) (m n : Nat) (b : List Sm) : FnS := fun as =>
  if as.length = m then (match runs F b (as.map some ++ List.replicate (n - m) none) with
  | .nx r => .ret .none (outsOf m r)
  | .ret d r => .ret d (outsOf m r)
  | .exc c r => .exc c (outsOf m r)
  | _ => .bad) else .bad
end Ap

end
section
/-! How the core's environments stand in the abstract heap. -/
namespace Ap
open PySem PySem.Spec PyProof.Rows L2
abbrev St := L2.St

/-! ### frozen data -/
def plV : V → Bool
  | .int _ => true
  | .str _ => true
  | _ => false
/-- the label of a tuple: one that holds more than ints and texts is known to its object -/
def labT (vs : List V) (o : Obj) : HO := if vs.all plV then .tup vs else .frz o (.tup vs)
def TupF (F : Hp) (a : Addr) (vs : List V) : Prop := ∃ o : Obj, o.dict = none ∧ F a = some (labT vs o)
theorem labT_pl {vs : List V} {o : Obj} (h : vs.all plV = true) : labT vs o = .tup vs := if_pos h
theorem TupF.mono {F F' : Hp} {a : Addr} {vs : List V} (s : Same F F') (h : TupF F a vs) : TupF F' a vs := let ⟨o, h1, h2⟩ := h; ⟨o, h1, s _ _ h2⟩
theorem TupF.pl {F : Hp} {a : Addr} {vs : List V} (h : TupF F a vs) (hp : vs.all plV = true) : F a = some (.tup vs) := by
  obtain ⟨o, _, h2⟩ := h
  rw [labT_pl hp] at h2
  exact h2
theorem TupF.rd {F : Hp} {a : Addr} {vs : List V} (h : TupF F a vs) : Rd F a (.tup vs) := by
  obtain ⟨o, _, h2⟩ := h
  unfold labT at h2
  split at h2
  · exact .inl h2
  · exact .inr ⟨o, h2⟩
theorem TupF.sq {K : PySem.W.Frag} {F : Hp} {a : Addr} {vs : List V} (h : TupF F a vs) : SqT K F a vs := .inl h.rd
mutual
inductive Rp (F : Hp) : D → V → Prop
  | non : Rp F .none .non
  | bl (b : Bool) : Rp F (.bool b) (.bl b)
  | int (i : Int) : Rp F (.int i) (.int i)
  | str (x : Str) : Rp F (.str x) (.str x)
  | lst {a : Addr} {vs : List V} {ds : List D} : F a = some (.lst vs) → Rps F ds vs → Rp F (.list ds) (.ref a)
  | tup {a : Addr} {vs : List V} {ds : List D} : TupF F a vs → Rps F ds vs → Rp F (.tuple ds) (.ref a)
inductive Rps (F : Hp) : List D → List V → Prop
  | nil : Rps F [] []
  | cons {d : D} {ds : List D} {v : V} {vs : List V} : Rp F d v → Rps F ds vs → Rps F (d :: ds) (v :: vs)
end
mutual
theorem Rp.mono {F F' : Hp} (s : Same F F') : ∀ {d : D} {v : V}, Rp F d v → Rp F' d v
  | _, _, .non => .non
  | _, _, .bl b => .bl b
  | _, _, .int i => .int i
  | _, _, .str x => .str x
  | _, _, .lst h hs => .lst (s _ _ h) (hs.mono s)
  | _, _, .tup h hs => .tup (h.mono s) (hs.mono s)
theorem Rps.mono {F F' : Hp} (s : Same F F') : ∀ {ds : List D} {vs : List V}, Rps F ds vs → Rps F' ds vs
  | _, _, .nil => .nil
  | _, _, .cons h hs => .cons (h.mono s) (hs.mono s)
end
mutual
theorem Rp.dp {K : PySem.W.Frag} {F : Hp} : ∀ {d : D} {v : V}, Rp F d v → Dp K F v d
  | _, _, .non => .non
  | _, _, .bl b => .bl b
  | _, _, .int i => .int i
  | _, _, .str x => .str x
  | _, _, .lst h hs => .lst (.of h) hs.dp
  | _, _, .tup h hs => .tup h.sq hs.dp
theorem Rps.dp {K : PySem.W.Frag} {F : Hp} : ∀ {ds : List D} {vs : List V}, Rps F ds vs → DpAll K F vs ds
  | _, _, .nil => .nil
  | _, _, .cons h hs => .cons h.dp hs.dp
end
mutual
theorem Rp.plain {F : Hp} : ∀ {d : D} {v : V}, Rp F d v → d.plain = true
  | _, _, .non => rfl
  | _, _, .bl b => rfl
  | _, _, .int i => rfl
  | _, _, .str x => rfl
  | _, _, .lst h hs => by simp only [PyData.plain]; exact hs.plain
  | _, _, .tup h hs => by simp only [PyData.plain]; exact hs.plain
theorem Rps.plain {F : Hp} : ∀ {ds : List D} {vs : List V}, Rps F ds vs → PyData.plainAll ds = true
  | _, _, .nil => rfl
  | _, _, .cons h hs => by simp only [PyData.plainAll, h.plain, hs.plain, Bool.and_self]
end
theorem Rps.length {F : Hp} : ∀ {ds : List D} {vs : List V}, Rps F ds vs → ds.length = vs.length
  | _, _, .nil => rfl
  | _, _, .cons _ hs => by simp [hs.length]
theorem Rps.append {F : Hp} : ∀ {ds : List D} {vs : List V} {es : List D} {us : List V}, Rps F ds vs → Rps F es us → Rps F (ds ++ es) (vs ++ us)
  | _, _, _, _, .nil, h => h
  | _, _, _, _, .cons h hs, h2 => .cons h (hs.append h2)
theorem Rps.get {F : Hp} : ∀ {ds : List D} {vs : List V} {i : Nat} {d : D}, Rps F ds vs → ds[i]? = some d → ∃ v, vs[i]? = some v ∧ Rp F d v
  | _, _, _, _, .nil, e => by simp at e
  | _, _, 0, _, .cons h _, e => by simp at e; subst e; exact ⟨_, rfl, h⟩
  | _, _, i + 1, _, .cons _ hs, e => by
    obtain ⟨v, h1, h2⟩ := Rps.get (i := i) hs (by simpa using e)
    exact ⟨v, by simpa using h1, h2⟩
theorem Rps.getV {F : Hp} : ∀ {ds : List D} {vs : List V} {i : Nat} {v : V}, Rps F ds vs → vs[i]? = some v → ∃ d, ds[i]? = some d ∧ Rp F d v
  | _, _, _, _, .nil, e => by simp at e
  | _, _, 0, _, .cons h _, e => by simp at e; subst e; exact ⟨_, rfl, h⟩
  | _, _, i + 1, _, .cons _ hs, e => by
    obtain ⟨v, h1, h2⟩ := Rps.getV (i := i) hs (by simpa using e)
    exact ⟨v, by simpa using h1, h2⟩
theorem Rps.take {F : Hp} : ∀ {ds : List D} {vs : List V} (n : Nat), Rps F ds vs → Rps F (ds.take n) (vs.take n)
  | _, _, 0, _ => .nil
  | _, _, _ + 1, .nil => .nil
  | _, _, n + 1, .cons h hs => .cons h (hs.take n)
theorem Rps.drop {F : Hp} : ∀ {ds : List D} {vs : List V} (n : Nat), Rps F ds vs → Rps F (ds.drop n) (vs.drop n)
  | _, _, 0, h => h
  | _, _, _ + 1, .nil => .nil
  | _, _, n + 1, .cons _ hs => hs.drop n
theorem Rps.reverse {F : Hp} : ∀ {ds : List D} {vs : List V}, Rps F ds vs → Rps F ds.reverse vs.reverse
  | _, _, .nil => .nil
  | _, _, .cons h hs => by
    rw [List.reverse_cons, List.reverse_cons]
    exact hs.reverse.append (.cons h .nil)
theorem Rps.set {F : Hp} {d : D} {v : V} (h : Rp F d v) : ∀ {ds : List D} {vs : List V} (n : Nat), Rps F ds vs → Rps F (ds.set n d) (vs.set n v)
  | _, _, _, .nil => .nil
  | _, _, 0, .cons _ hs => .cons h hs
  | _, _, n + 1, .cons g hs => .cons g (Rps.set h n hs)
theorem Rps.eraseIdx {F : Hp} : ∀ {ds : List D} {vs : List V} (n : Nat), Rps F ds vs → Rps F (ds.eraseIdx n) (vs.eraseIdx n)
  | _, _, _, .nil => .nil
  | _, _, 0, .cons _ hs => hs
  | _, _, n + 1, .cons g hs => .cons g (Rps.eraseIdx n hs)
theorem Rps.rep {F : Hp} {ds : List D} {vs : List V} (h : Rps F ds vs) : ∀ n : Nat, Rps F (List.replicate n ds).flatten (List.replicate n vs).flatten
  | 0 => .nil
  | n + 1 => by
    rw [List.replicate_succ, List.replicate_succ, List.flatten_cons, List.flatten_cons]
    exact h.append (h.rep n)
theorem Rps.dropLast {F : Hp} {ds : List D} {vs : List V} (h : Rps F ds vs) : Rps F ds.dropLast vs.dropLast := by
  rw [List.dropLast_eq_take, List.dropLast_eq_take, h.length]
  exact h.take _
theorem Rps.ints {F : Hp} : ∀ {ds : List D} {vs : List V} {ns : List Int}, Rps F ds vs → intsD ds = some ns → vs = ns.map V.int
  | _, _, _, .nil, e => by simp [intsD] at e; subst e; rfl
  | _, _, _, .cons (d := d) h hs, e => by
    cases h <;> simp only [intsD, Option.map_eq_some_iff, reduceCtorEq] at e
    obtain ⟨r, e1, rfl⟩ := e
    rw [hs.ints e1]
    rfl
theorem Rps.bools {F : Hp} : ∀ {ds : List D} {vs : List V} {ns : List Bool}, Rps F ds vs → boolsD ds = some ns → vs = ns.map V.bl
  | _, _, _, .nil, e => by simp [boolsD] at e; subst e; rfl
  | _, _, _, .cons (d := d) h hs, e => by
    cases h <;> simp only [boolsD, Option.map_eq_some_iff, reduceCtorEq] at e
    obtain ⟨r, e1, rfl⟩ := e
    rw [hs.bools e1]
    rfl

theorem ints_pl (ns : List Int) : (ns.map V.int).all plV = true := by
  rw [List.all_map]
  exact List.all_eq_true.mpr fun _ _ => rfl
/-! ### masks -/
open Classical in
noncomputable def msk (H : Hp) (M : Addr → Prop) : Hp := fun a => if M a then none else H a
theorem msk_some {H : Hp} {M : Addr → Prop} {a : Addr} {o : HO} : msk H M a = some o ↔ ¬ M a ∧ H a = some o := by
  unfold msk
  by_cases h : M a <;> simp [h]
theorem msk_same {H : Hp} {M : Addr → Prop} : Same (msk H M) H := fun _ _ h => (msk_some.mp h).2
theorem TupF.at {K : PySem.W.Frag} {H : Hp} {M : Addr → Prop} {a : Addr} {vs : List V} (h : TupF (msk H M) a vs) : SqT K H a vs := (h.mono msk_same).sq
theorem msk_le {H : Hp} {M M' : Addr → Prop} (h : ∀ a, M' a → M a) : Same (msk H M) (msk H M') := fun _ _ e =>
  msk_some.mpr ⟨fun z => (msk_some.mp e).1 (h _ z), (msk_some.mp e).2⟩

/-! ### where the environment stands -/
structure Gx where
  K : PySem.W.Frag
  fa : Nat → Addr
  ca : Nat → Addr
structure Fx where
  G : Gx
  os : Addr → Prop
  H0 : Hp
  bs : List (Nat × Addr)
  bk : Nat → Kd

abbrev Fx.K (C : Fx) : PySem.W.Frag := C.G.K
abbrev Fx.fa (C : Fx) : Nat → Addr := C.G.fa
abbrev Fx.ca (C : Fx) : Nat → Addr := C.G.ca

/-- the entries of a dict -/
inductive Kvs (F : Hp) {α β : Type} (f : α → β) : List (α × D) → List (β × V) → Prop
  | nil : Kvs F f [] []
  | cons {k : α} {d : D} {v : V} {kvs : List (α × D)} {ws : List (β × V)} : Rp F d v → Kvs F f kvs ws → Kvs F f ((k, d) :: kvs) ((f k, v) :: ws)
theorem Kvs.mono {F F' : Hp} {α β : Type} {f : α → β} (s : Same F F') : ∀ {kvs : List (α × D)} {ws : List (β × V)}, Kvs F f kvs ws → Kvs F' f kvs ws
  | _, _, .nil => .nil
  | _, _, .cons h t => .cons (h.mono s) (t.mono s)
def keyT (k : List Int) : List Key := k.map Sum.inl
/-- the list that the instance at x has as its steps -/
def Sub (H : Hp) (x a : Addr) : Prop := ∃ C dx fs, H x = some (.ins C dx fs) ∧ fs.lookup ("steps" : Str) = some (V.ref a)
def kdS : Option (Option Slot) → Kd
  | some (some (.own o)) => o.kd
  | some (some (.bor o)) => o.kd
  | _ => .pl
/-- a belongs to the object at x -/
def Own (κ : Kd) (H : Hp) (x a : Addr) : Prop := a = x ∨ match κ with
  | .pl => False
  | .rt => Sub H x a
  | .ll => ∃ vs, H x = some (.lst vs) ∧ V.ref a ∈ vs
abbrev rtF (v1 v2 v3 : V) (b : Addr) (v4 : V) : List (Str × V) := [("grid", v1), ("lines", v2), ("routes", v3), ("steps", .ref b), ("kept", v4)]
theorem rtF_steps {v1 v2 v3 v4 : V} {b : Addr} : (rtF v1 v2 v3 b v4).lookup ("steps" : Str) = some (V.ref b) := by
  have h1 : (("steps" : Str) == "grid") = false := by decide +kernel
  have h2 : (("steps" : Str) == "lines") = false := by decide +kernel
  have h3 : (("steps" : Str) == "routes") = false := by decide +kernel
  have h4 : (("steps" : Str) == "steps") = true := by decide +kernel
  simp only [rtF, List.lookup, h1, h2, h3, h4]
theorem Sub.of {H : Hp} {x a C dx : Addr} {v1 v2 v3 v4 : V} {b : Addr} (h : H x = some (.ins C dx (rtF v1 v2 v3 b v4))) (s : Sub H x a) : a = b := by
  obtain ⟨C', dx', fs, e, l⟩ := s
  rw [h] at e
  cases e
  rw [rtF_steps] at l
  cases l
  rfl
theorem Sub.same {H H' : Hp} {x a : Addr} (s : Sub H x a) (h : ∀ o, H x = some o → H' x = some o) : Sub H' x a := by
  obtain ⟨C, dx, fs, e, l⟩ := s
  exact ⟨C, dx, fs, h _ e, l⟩
theorem Sub.not {H : Hp} {x a : Addr} {o : HO} (s : Sub H x a) (h : H x = some o) (n : ∀ C dx fs, o ≠ .ins C dx fs) : False := by
  obtain ⟨C, dx, fs, e, _⟩ := s
  rw [h] at e
  cases e
  exact n _ _ _ rfl
theorem Sub.upd {H : Hp} {x a p : Addr} {o : HO} (h : x ≠ p) : Sub (L2.upd H p o) x a ↔ Sub H x a := by
  constructor
  · rintro ⟨C, dx, fs, e, l⟩
    rw [upd_ne h] at e
    exact ⟨C, dx, fs, e, l⟩
  · rintro ⟨C, dx, fs, e, l⟩
    exact ⟨C, dx, fs, by rw [upd_ne h]; exact e, l⟩
theorem Own.congr {κ : Kd} {H H' : Hp} {x : Addr} (h : H x = H' x) (a : Addr) : Own κ H x a ↔ Own κ H' x a := by
  unfold Own Sub
  rw [h]
theorem Own.same {κ : Kd} {H H' : Hp} {x a : Addr} {o : HO} (w : Own κ H x a) (h : H x = some o) (h' : H' x = some o) : Own κ H' x a := (Own.congr (h.trans h'.symm) a).mp w
theorem own_pl {H : Hp} {x a : Addr} : Own .pl H x a ↔ a = x := ⟨fun z => z.elim id False.elim, .inl⟩
/-- lists, each of its own -/
inductive Lls (F H : Hp) : List (List D) → List Addr → Prop
  | nil : Lls F H [] []
  | cons {ds : List D} {vs : List V} {b : Addr} {rows : List (List D)} {as : List Addr} : H b = some (.lst vs) → Rps F ds vs → Lls F H rows as → Lls F H (ds :: rows) (b :: as)
theorem Lls.mono {F F' H H' : Hp} (g : Same F F') : ∀ {rows : List (List D)} {as : List Addr}, Lls F H rows as → (∀ b ∈ as, ∀ x, H b = some x → H' b = some x) → Lls F' H' rows as
  | _, _, .nil, _ => .nil
  | _, _, .cons h1 h2 t, k => .cons (k _ (List.mem_cons_self ..) _ h1) (h2.mono g) (t.mono g fun b hb => k b (List.mem_cons_of_mem _ hb))
theorem Lls.live {F H : Hp} : ∀ {rows : List (List D)} {as : List Addr}, Lls F H rows as → ∀ b ∈ as, ∃ vs, H b = some (.lst vs)
  | _, _, .nil, b, hb => by cases hb
  | _, _, .cons h1 _ t, b, hb => by
    rcases List.mem_cons.mp hb with rfl | hb
    · exact ⟨_, h1⟩
    · exact t.live b hb
theorem Lls.length {F H : Hp} : ∀ {rows : List (List D)} {as : List Addr}, Lls F H rows as → rows.length = as.length
  | _, _, .nil => rfl
  | _, _, .cons _ _ t => by simp [t.length]
theorem ref_mem {a : Addr} {as : List Addr} : V.ref a ∈ as.map V.ref ↔ a ∈ as := by
  constructor
  · intro h
    obtain ⟨b, hb, e⟩ := List.mem_map.mp h
    cases e
    exact hb
  · exact fun h => List.mem_map_of_mem h
def MoOk (rc : Addr) (F H : Hp) (a : Addr) : MO → Prop
  | .rt g l ro st kp => ∃ dx b v1 v2 v3 v4 vs, H a = some (.ins rc dx (rtF v1 v2 v3 b v4)) ∧ H b = some (.lst vs) ∧ Rp F g v1 ∧ Rp F l v2 ∧ Rp F ro v3 ∧ Rp F kp v4 ∧ Rps F st vs
  | .ll rows => ∃ as : List Addr, H a = some (.lst (as.map V.ref)) ∧ as.Nodup ∧ a ∉ as ∧ Lls F H rows as
  | .lst ds => ∃ vs, H a = some (.lst vs) ∧ Rps F ds vs
  | .dct kvs => ∃ ws, H a = some (.dT ws) ∧ Kvs F keyT kvs ws
  | .dci kvs => ∃ ws, H a = some (.dK ws) ∧ Kvs F (fun i : Int => (Sum.inl i : Key)) kvs ws
theorem MoOk.live {rc : Addr} {F H : Hp} {a : Addr} {o : MO} (h : MoOk rc F H a o) : ∃ x, H a = some x := by
  cases o with
  | rt g l ro st kp => obtain ⟨dx, b, v1, v2, v3, v4, vs, h, _⟩ := h; exact ⟨_, h⟩
  | ll rows => obtain ⟨as, h, _⟩ := h; exact ⟨_, h⟩
  | lst ds => obtain ⟨vs, h, _⟩ := h; exact ⟨_, h⟩
  | dct ds => obtain ⟨vs, h, _⟩ := h; exact ⟨_, h⟩
  | dci ds => obtain ⟨vs, h, _⟩ := h; exact ⟨_, h⟩
theorem own_ll {H : Hp} {a b : Addr} {as : List Addr} (h : H a = some (.lst (as.map V.ref))) : Own .ll H a b ↔ b = a ∨ b ∈ as := by
  constructor
  · rintro (z | ⟨vs, z1, z2⟩)
    · exact .inl z
    · rw [h] at z1
      cases z1
      exact .inr (ref_mem.mp z2)
  · rintro (z | z)
    · exact .inl z
    · exact .inr ⟨_, h, ref_mem.mpr z⟩
theorem own_rt {H : Hp} {a b c rc dx : Addr} {v1 v2 v3 v4 : V} (h : H a = some (.ins rc dx (rtF v1 v2 v3 c v4))) : Own .rt H a b ↔ b = a ∨ b = c := by
  constructor
  · rintro (z | z)
    · exact .inl z
    · exact .inr (z.of h)
  · rintro (z | z)
    · exact .inl z
    · subst z
      exact .inr ⟨_, _, _, h, rtF_steps⟩
/-- what a changeable object has under it is live, too -/
theorem MoOk.own {rc : Addr} {F H : Hp} {a b : Addr} {o : MO} (h : MoOk rc F H a o) (w : Own o.kd H a b) : ∃ x, H b = some x := by
  cases o with
  | rt g l ro st kp =>
    obtain ⟨dx, c, v1, v2, v3, v4, vs, h1, h2, _⟩ := h
    rcases (own_rt h1).mp w with rfl | rfl
    · exact ⟨_, h1⟩
    · exact ⟨_, h2⟩
  | ll rows =>
    obtain ⟨as, h1, _, _, h4⟩ := h
    rcases (own_ll h1).mp w with rfl | z
    · exact ⟨_, h1⟩
    · obtain ⟨vs, z⟩ := h4.live b z
      exact ⟨_, z⟩
  | lst ds => cases own_pl.mp w; exact h.live
  | dct ds => cases own_pl.mp w; exact h.live
  | dci ds => cases own_pl.mp w; exact h.live
theorem MoOk.mono {rc : Addr} {F F' H H' : Hp} {a : Addr} {o : MO} (h : MoOk rc F H a o) (g : Same F F') (k : ∀ b x, Own o.kd H a b → H b = some x → H' b = some x) : MoOk rc F' H' a o := by
  have k0 : ∀ x, H a = some x → H' a = some x := fun x => k a x (.inl rfl)
  cases o with
  | rt g0 l ro st kp =>
    obtain ⟨dx, b, v1, v2, v3, v4, vs, h1, h2, r1, r2, r3, r4, r5⟩ := h
    exact ⟨dx, b, v1, v2, v3, v4, vs, k0 _ h1, k b _ (.inr ⟨_, _, _, h1, rtF_steps⟩) h2, r1.mono g, r2.mono g, r3.mono g, r4.mono g, r5.mono g⟩
  | ll rows =>
    obtain ⟨as, h1, h2, h3, h4⟩ := h
    exact ⟨as, k0 _ h1, h2, h3, h4.mono g fun b hb x => k b x ((own_ll h1).mpr (.inr hb))⟩
  | lst ds => obtain ⟨vs, h1, h2⟩ := h; exact ⟨vs, k0 _ h1, h2.mono g⟩
  | dct ds => obtain ⟨vs, h1, h2⟩ := h; exact ⟨vs, k0 _ h1, h2.mono g⟩
  | dci ds => obtain ⟨vs, h1, h2⟩ := h; exact ⟨vs, k0 _ h1, h2.mono g⟩
def SlotOk (K : PySem.W.Frag) (fa : Nat → Addr) (F H : Hp) : Slot → V → Prop
  | .dat d, v => Rp F d v
  | .own o, v => ∃ a, v = .ref a ∧ MoOk (fa 900) F H a o
  | .bor o, v => ∃ a, v = .ref a ∧ MoOk (fa 900) F H a o
  | .fn k, v => v = .ref (fa k)
  | .scr ns, v => ∃ a, v = .ref a ∧ SqL K F a (ns.map V.int)
/-- slot i holds a changeable object to which a belongs -/
def MutAt (H : Hp) (r : Env) (σ : St) (i : Nat) (a : Addr) : Prop := isMut r[i]? = true ∧ ∃ x, σ[i]? = some (some (.ref x)) ∧ Own (kdS r[i]?) H x a
theorem MutAt.of {H : Hp} {r : Env} {σ : St} {i : Nat} {a : Addr} (h : isMut r[i]? = true) (g : σ[i]? = some (some (.ref a))) : MutAt H r σ i a := ⟨h, a, g, .inl rfl⟩
def Msk (H : Hp) (os : Addr → Prop) (r : Env) (σ : St) (a : Addr) : Prop := os a ∨ ∃ i, MutAt H r σ i a
/-- what is frozen -/
noncomputable abbrev fz (C : Fx) (r : Env) (σ : St) (H : Hp) : Hp := msk H (Msk H C.os r σ)

structure EOk (C : Fx) (r : Env) (σ : St) (H : Hp) : Prop where
  len : r.length = σ.length
  slot : ∀ (i : Nat) (s : Slot), r[i]? = some (some s) → ∃ v, σ[i]? = some (some v) ∧ SlotOk C.K C.fa (fz C r σ H) H s v
  inj : ∀ (i j : Nat) (a : Addr), MutAt H r σ i a → MutAt H r σ j a → i = j
  live : ∀ a, C.os a → ∃ o, H a = some o
  base : ∀ a o, C.H0 a = some o → (∀ p ∈ C.bs, ¬ Own (C.bk p.1) C.H0 p.2 a) → H a = some o
  new : ∀ (i : Nat) (o : MO) (a : Addr), r[i]? = some (some (.own o)) → MutAt H r σ i a → C.H0 a = none ∧ ¬ C.os a
  bor : ∀ (i : Nat) (o : MO) (a : Addr), r[i]? = some (some (.bor o)) → σ[i]? = some (some (.ref a)) → (i, a) ∈ C.bs
  bors : ∀ p ∈ C.bs, isBor r[p.1]? = true ∧ σ[p.1]? = some (some (.ref p.2)) ∧ kdS r[p.1]? = C.bk p.1 ∧ ∀ b, Own (C.bk p.1) H p.2 b ↔ Own (C.bk p.1) C.H0 p.2 b

def VlOk (C : Fx) (r : Env) (σ : St) (H : Hp) : Vl → V → Prop
  | .dat d, v => Rp (fz C r σ H) d v
  | .own i, v => σ[i]? = some (some v)
  | .fn k, v => v = .ref (C.fa k)
  | .scr ns, v => ∃ a, v = .ref a ∧ SqL C.K (fz C r σ H) a (ns.map V.int)
def VlsOk (C : Fx) (r : Env) (σ : St) (H : Hp) : List Vl → List V → Prop := Paired (VlOk C r σ H)

/-- what was frozen stays so -/
abbrev Grow (C : Fx) (r r' : Env) (σ : St) (H H' : Hp) : Prop := Same (fz C r σ H) (fz C r' σ H')

theorem VlOk.grow {C : Fx} {r r' : Env} {σ : St} {H H' : Hp} {x : Vl} {v : V} (h : VlOk C r σ H x v) (g : Grow C r r' σ H H') : VlOk C r' σ H' x v := by
  cases x with
  | dat d => exact Rp.mono g h
  | own i => exact h
  | fn k => exact h
  | scr ns =>
    obtain ⟨a, e, q⟩ := h
    exact ⟨a, e, g.seq q⟩
theorem VlsOk.grow {C : Fx} {r r' : Env} {σ : St} {H H' : Hp} {xs : List Vl} {vs : List V} (h : VlsOk C r σ H xs vs) (g : Grow C r r' σ H H') : VlsOk C r' σ H' xs vs :=
  Paired.mapP h fun _ _ q => q.grow g

/-- what is wanted behind an expression -/
def PostE (C : Fx) (W : WX) (r : Env) (σ : St) (H : Hp) (Q : VK) : R Vl → Prop
  | .ok x r' => ∀ v H', EOk C r' σ H' → Grow C r r' σ H H' → VlOk C r' σ H' x v → Q v H'
  | .exc c r' => ∀ H', EOk C r' σ H' → W (.ref (C.ca c)) none σ H'
  | .bad => False
def PostA (C : Fx) (W : WX) (r : Env) (σ : St) (H : Hp) (Q : List V → Hp → Prop) : R (List Vl) → Prop
  | .ok xs r' => ∀ vs H', EOk C r' σ H' → Grow C r r' σ H H' → VlsOk C r' σ H' xs vs → Q vs H'
  | .exc c r' => ∀ H', EOk C r' σ H' → W (.ref (C.ca c)) none σ H'
  | .bad => False
def PostT (C : Fx) (W : WX) (r : Env) (σ : St) (H : Hp) (Q : Bool → Hp → Prop) : R Bool → Prop
  | .ok b r' => ∀ H', EOk C r' σ H' → Grow C r r' σ H H' → Q b H'
  | .exc c r' => ∀ H', EOk C r' σ H' → W (.ref (C.ca c)) none σ H'
  | .bad => False
def tEv (G : Gx) (F : Nat → FnS) (W : WX) (e : Ex) : TE := fun σ H Q => ∃ C : Fx, C.G = G ∧ ∃ r, EOk C r σ H ∧ PostE C W r σ H Q (ev F e r)
def tEvs (G : Gx) (F : Nat → FnS) (W : WX) (es : List Ex) : TA := fun σ H Q => ∃ C : Fx, C.G = G ∧ ∃ r, EOk C r σ H ∧ PostA C W r σ H Q (evs F es r)
def tEvT (G : Gx) (F : Nat → FnS) (W : WX) (e : Ex) : TT := fun σ H Q => ∃ C : Fx, C.G = G ∧ ∃ r, EOk C r σ H ∧ PostT C W r σ H Q ((ev F e r).bind asBool)

/-! ### steps of the heap -/
section
variable {C : Fx} {r : Env} {σ : St} {H : Hp}
theorem bor_mut {s : Option (Option Slot)} (h : isBor s = true) : isMut s = true := by
  unfold isBor at h
  split at h
  · rfl
  · cases h
theorem mut_own {i : Nat} {x b : Addr} (h : isMut r[i]? = true) (g : σ[i]? = some (some (.ref x))) : MutAt H r σ i b ↔ Own (kdS r[i]?) H x b := by
  constructor
  · rintro ⟨_, y, z1, z2⟩
    rw [g] at z1
    cases z1
    exact z2
  · exact fun w => ⟨h, x, g, w⟩
theorem EOk.borOwn (e : EOk C r σ H) {i : Nat} {o : MO} {a : Addr} (q : r[i]? = some (some (.bor o))) (m : MutAt H r σ i a) : ∃ p ∈ C.bs, Own (C.bk p.1) C.H0 p.2 a := by
  obtain ⟨_, x, h1, h2⟩ := m
  have hb := e.bor i o x q h1
  obtain ⟨_, _, h3, h4⟩ := e.bors _ hb
  have h3 : kdS r[i]? = C.bk i := h3
  rw [h3] at h2
  exact ⟨_, hb, (h4 a).mp h2⟩
/-- what is borrowed, in another heap -/
theorem EOk.borsT (e : EOk C r σ H) {H' : Hp} (mu : ∀ i a, MutAt H' r σ i a ↔ MutAt H r σ i a) : ∀ p ∈ C.bs, isBor r[p.1]? = true ∧ σ[p.1]? = some (some (.ref p.2)) ∧ kdS r[p.1]? = C.bk p.1 ∧ ∀ b, Own (C.bk p.1) H' p.2 b ↔ Own (C.bk p.1) C.H0 p.2 b := fun p hp => by
  obtain ⟨h1, h2, h3, h4⟩ := e.bors p hp
  refine ⟨h1, h2, h3, fun b => ?_⟩
  rw [← h4 b, ← h3, ← mut_own (bor_mut h1) h2, mu, mut_own (bor_mut h1) h2]
/-- what a slot that is changed holds -/
theorem EOk.mobj (e : EOk C r σ H) {i : Nat} (h : isMut r[i]? = true) : ∃ (o : MO) (x : Addr), (r[i]? = some (some (.own o)) ∨ r[i]? = some (some (.bor o))) ∧ σ[i]? = some (some (.ref x)) ∧ MoOk (C.fa 900) (fz C r σ H) H x o := by
  cases q : r[i]? with
  | none => rw [q] at h; cases h
  | some s =>
    cases s with
    | none => rw [q] at h; cases h
    | some s =>
      obtain ⟨v, e1, ok⟩ := e.slot i s q
      cases s with
      | own o =>
        obtain ⟨b, e2, m⟩ := ok
        subst e2
        exact ⟨o, b, .inl rfl, e1, m⟩
      | bor o =>
        obtain ⟨b, e2, m⟩ := ok
        subst e2
        exact ⟨o, b, .inr rfl, e1, m⟩
      | _ => rw [q] at h; cases h
theorem EOk.live' (e : EOk C r σ H) {a : Addr} (h : Msk H C.os r σ a) : ∃ o, H a = some o := by
  rcases h with h | ⟨i, h1, x, h2, h3⟩
  · exact e.live a h
  · obtain ⟨o, y, e0, e1, m⟩ := e.mobj h1
    rw [e1] at h2
    cases h2
    have hk : kdS r[i]? = o.kd := by rcases e0 with z | z <;> rw [z] <;> rfl
    rw [hk] at h3
    exact m.own h3
/-- what belongs to a slot is the same in a heap in which its object stands -/
theorem EOk.mutAt {H' : Hp} (e : EOk C r σ H) {i : Nat} (k : ∀ x o, σ[i]? = some (some (.ref x)) → H x = some o → H' x = some o) (a : Addr) : MutAt H' r σ i a ↔ MutAt H r σ i a := by
  by_cases h1 : isMut r[i]? = true
  · obtain ⟨o, y, _, e1, m⟩ := e.mobj h1
    obtain ⟨u, hu⟩ := m.live
    rw [mut_own h1 e1, mut_own h1 e1]
    exact Own.congr ((k _ _ e1 hu).trans hu.symm) a
  · exact ⟨fun z => absurd z.1 h1, fun z => absurd z.1 h1⟩
/-- .. if another object is changed -/
theorem EOk.mutU (e : EOk C r σ H) {D : Addr} {y : HO} (h : ∀ j a, MutAt H r σ j a → a ≠ D) (i : Nat) (a : Addr) : MutAt (upd H D y) r σ i a ↔ MutAt H r σ i a := by
  by_cases hm : isMut r[i]? = true
  · exact e.mutAt (fun x o h1 h2 => by rw [upd_ne (h i x (.of hm h1))]; exact h2) a
  · exact ⟨fun z => absurd z.1 hm, fun z => absurd z.1 hm⟩
theorem EOk.notN (e : EOk C r σ H) {D : Addr} (h : H D = none) : ∀ j a, MutAt H r σ j a → a ≠ D := fun j a m z => by
  obtain ⟨o, ho⟩ := e.live' (.inr ⟨j, m⟩)
  rw [z, h] at ho
  cases ho
theorem EOk.mutS {H' : Hp} (e : EOk C r σ H) (s : Same H H') (i : Nat) (a : Addr) : MutAt H' r σ i a ↔ MutAt H r σ i a := e.mutAt (fun x o _ h => s x o h) a
theorem EOk.mskS {H' : Hp} (e : EOk C r σ H) (s : Same H H') (a : Addr) : Msk H' C.os r σ a ↔ Msk H C.os r σ a := by
  unfold Msk
  simp only [e.mutS s]
theorem SlotOk.mono {K : PySem.W.Frag} {fa : Nat → Addr} {F F' G G' : Hp} {s : Slot} {v : V} (h : SlotOk K fa F G s v) (g : Same F F') (k : ∀ a b o, v = .ref a → (∃ m, s = .own m ∨ s = .bor m) → Own (kdS (some (some s))) G a b → G b = some o → G' b = some o) : SlotOk K fa F' G' s v := by
  cases s with
  | dat d => exact Rp.mono g h
  | own o =>
    obtain ⟨a, e, m⟩ := h
    exact ⟨a, e, m.mono g fun b x w z => k a b _ e ⟨_, .inl rfl⟩ w z⟩
  | bor o =>
    obtain ⟨a, e, m⟩ := h
    exact ⟨a, e, m.mono g fun b x w z => k a b _ e ⟨_, .inr rfl⟩ w z⟩
  | fn k => exact h
  | scr ns =>
    obtain ⟨a, e, q⟩ := h
    exact ⟨a, e, g.seq q⟩
theorem EOk.growS {H' : Hp} (e : EOk C r σ H) (s : Same H H') : Grow C r r σ H H' := fun a o z => msk_some.mpr ⟨fun m => (msk_some.mp z).1 ((e.mskS s a).mp m), s _ _ (msk_some.mp z).2⟩
/-- the heap has grown -/
theorem EOk.grown {H' : Hp} (e : EOk C r σ H) (s : Same H H') : EOk C r σ H' where
  len := e.len
  slot := fun i t q => by
    obtain ⟨v, h1, h2⟩ := e.slot i t q
    exact ⟨v, h1, h2.mono (e.growS s) fun a b o _ _ _ z => s _ _ z⟩
  inj := fun i j a h1 h2 => e.inj i j a ((e.mutS s i a).mp h1) ((e.mutS s j a).mp h2)
  live := fun a h => let ⟨o, q⟩ := e.live a h; ⟨o, s _ _ q⟩
  base := fun a o h n => s _ _ (e.base a o h n)
  new := fun i o a h1 h2 => e.new i o a h1 ((e.mutS s i a).mp h2)
  bor := e.bor
  bors := e.borsT (e.mutS s)
theorem same_upd {p : Addr} {o : HO} (h : H p = none) : Same H (upd H p o) := fun b x e => by
  rw [upd_ne (ne_of_none e h)]
  exact e
/-- a new object is seen -/
theorem EOk.fresh (e : EOk C r σ H) {p : Addr} {o : HO} (h : H p = none) : fz C r σ (upd H p o) p = some o := by
  refine msk_some.mpr ⟨fun m => ?_, upd_same⟩
  obtain ⟨x, q⟩ := e.live' ((e.mskS (same_upd h) p).mp m)
  rw [h] at q
  cases q
end
end Ap

end
section
/-! The makers of tuples, with their labels. -/
namespace Ap
open PySem PySem.Spec PyProof.Rows L2

/-- what is wanted of a new tuple -/
def NewT (H : Hp) (vs : List V) (Q : VK) : Prop := ∀ (p : Addr) (o : Obj), H p = none → o.dict = none → Q (.ref p) (upd H p (labT vs o))
section
variable {X : Cx}
theorem lab_ok {H : Hp} {h : Heap} {a : Addr} {vs : List V} {o : Obj} (ho : h.get? a = some o) (x : ObjOk X.prog X.w H h a (.tup vs)) : ObjOk X.prog X.w H h a (labT vs o) := by
  unfold labT
  split
  · exact x
  · exact ⟨ho, x⟩
/-- a new tuple is laid -/
theorem lay_tup {pins : List (Addr × Obj)} {σ : St} {H : Hp} {s : Shared} {Q : VK} {vs : List V} {us : List Value} {tk n : Nat} (I : Inv X pins σ H s) (rv : Vals vs us) (hz : vs.length ≤ sizeLine) (q : NewT H vs Q) :
    EP X pins σ Q (.ref s.heap.objs.size) { s with heap := s.heap.push { cls := .type "tuple", data := .seq us.toArray n }, toks := tk } :=
  ⟨.ref s.heap.objs.size, _, I.laid (t' := tk) (o := labT vs { cls := .type "tuple", data := .seq us.toArray n }) (fun _ _ z => Heap.get?_push_of_some _ z) (Nat.le_refl _)
    (lab_ok (Heap.get?_push_size _ rfl) ⟨hz, us, rv, ⟨_, Heap.get?_push_size _ rfl, rfl, _, rfl⟩⟩), rfl, q _ _ (I.hok.fresh (Nat.le_refl _)) rfl⟩
/-! displays -/
def tTupL (ta : TA) : TE := fun σ H Q => ta σ H fun vs H1 => vs.length ≤ sizeLine ∧ NewT H1 vs Q
theorem pe_tupL {es : List Expr} {ta : TA} {k : Nat} {pos : Pos} (ha : PA X es ta) : PE X (.Tuple es k pos) (tTupL ta) := by
  refine ⟨fun pins s σ H Q I h => ?_⟩
  refine wpAny_Tuple_spliced (thn (ha.run pos pins s σ H _ I h) fun us s1 z => ?_)
  obtain ⟨vs, H1, J, rv, hl, q⟩ := z
  exact ⟨by rw [← rv.length]; exact hl, lay_tup J rv hl q⟩
/-! t + u -/
def rCatL (K : PySem.W.Frag) : R2 := fun x y H Q => ∃ (a b : Addr) (vs ws : List V), x = .ref a ∧ y = .ref b ∧ SqT K H a vs ∧ SqT K H b ws ∧ vs.length + ws.length ≤ sizeLine ∧ (vs = [] → Q (.ref b) H) ∧ (vs ≠ [] → ws = [] → Q (.ref a) H) ∧ (vs ≠ [] → ws ≠ [] → NewT H (vs ++ ws) Q)
theorem op_catL : OpR X (binaryOp .Add) (rCatL X.K) := by
  intro pins s σ H x y v u Q I rx ry h
  obtain ⟨a, b, vs, ws, rfl, rfl, ha, hb, hl, k0, k1, k2⟩ := h
  cases rx
  cases ry
  obtain ⟨us, r1, t1, _⟩ := I.tuple ha
  obtain ⟨us', r2, t2, _⟩ := I.tuple hb
  by_cases hv : vs = []
  · subst hv
    cases r1
    exact cat_tup0 t1 t2 ⟨.ref b, H, I, rfl, k0 rfl⟩
  · refine HT.cat_tup t1 t2 (fun z => hv (r1.nil_iff.mp z)) (fun z => ⟨.ref a, H, I, rfl, k1 hv (r2.nil_iff.mp z)⟩) (fun z => ?_) (by rw [← r1.length, ← r2.length]; exact hl)
    have := lay_tup (tk := s.toks) (n := 0) I (r1.append r2) (by rw [List.length_append]; exact hl) (k2 hv fun w => z (r2.nil_iff.mpr w))
    first | exact this | simpa using this
/-! slices -/
def rSlL2 (K : PySem.W.Frag) : V → Option Int → Option Int → Hp → VK → Prop := fun x lo hi H Q => ∃ (a : Addr) (vs : List V), x = .ref a ∧ SqT K H a vs ∧ (HT.sIx vs.length 0 lo = 0 ∧ HT.sIx vs.length vs.length hi = vs.length → Q (.ref a) H) ∧
  (¬ (HT.sIx vs.length 0 lo = 0 ∧ HT.sIx vs.length vs.length hi = vs.length) → NewT H (cutV vs lo hi) Q)
theorem sl_tupL : SlR X (rSlL2 X.K) := by
  intro pins s σ H x v vl vu lo hi sl Q I rx hs pl pu h
  obtain ⟨a, vs, rfl, ha, k1, k2⟩ := h
  cases rx
  obtain ⟨us, rv, ht, hz⟩ := I.tuple ha
  have hn : us.toArray.size = vs.length := by rw [List.size_toArray, ← rv.length]
  refine ⟨"tuple", _, PyProof.Rows.slot_tuple_getitem.lookup, ht.typeIs, ?_⟩
  by_cases hw : HT.sIx vs.length 0 lo = 0 ∧ HT.sIx vs.length vs.length hi = vs.length
  · exact getItem_tuple_whole ht hs pl pu (by rw [hn]; exact hw) ⟨.ref a, H, I, rfl, k1 hw⟩
  · refine HT.getItem_tuple_cut ht hs pl pu (by rw [hn]; exact hw) ?_ (by rw [hn]; exact hz)
    rw [hn]
    have := lay_tup (tk := s.toks) (n := 0) I ((rv.drop (HT.sIx vs.length 0 lo)).take (HT.sIx vs.length vs.length hi - HT.sIx vs.length 0 lo)) (Nat.le_trans (cutV_length vs lo hi) hz) (k2 hw)
    first | exact this | simpa using this
/-! tuple(l) -/
theorem call_tupL : CallR X (.type "tuple") (fun xs H Q => ∃ (p : Addr) (ys : List V), xs = [.ref p] ∧ ((SqL X.K H p ys ∧ NewT H ys Q) ∨ (SqT X.K H p ys ∧ Q (.ref p) H))) := by
  intro pins s σ H xs us Q I rv h
  obtain ⟨p, ys, rfl, h⟩ := h
  obtain ⟨u, rfl, ru⟩ := Vals.one rv
  cases ru
  rcases h with ⟨hp, q⟩ | ⟨hp, q⟩
  · obtain ⟨vs, r2, pl, hz⟩ := I.list hp
    refine call_tuple_list pl.isList (fun h' kp => ?_) (by rw [List.size_toArray, ← r2.length]; omega)
    have J : Inv X pins σ H { s with heap := h' } := I.kept (t' := s.toks) kp
    exact lay_tup (tk := s.toks) (n := 0) J r2 hz q
  · obtain ⟨vs, r2, pl, hz⟩ := I.tuple hp
    exact call_tuple_same pl ⟨.ref p, H, I, rfl, q⟩
/-! t * k -/
theorem tuple_mul1 (l : Addr) (items : Array Value) (n : Nat) (dd : Option Addr) (sl : Array (Option Value)) (u : Tok) :
    Meets (Builtin.«tuple.__mul__» ⟨[.ref l, .int 1 u], []⟩) (fun _ R s => s.heap.get? l = some { cls := .type "tuple", dict := dd, data := .seq items n, slots := sl } ∧ R (.ok (.ret (Value.ref l))) s) :=
  .of_wp fun prog w A R s h => by
    obtain ⟨hp, g, d, tk, os⟩ := s
    obtain ⟨hl, h⟩ := h
    have f1 := AutoSeq1.idx_int
    have c1 : (items.isEmpty || (1 : Int) == 1) = true := by simp
    wp_walk using wpAny_loadPart' hl
    repeat (first
      | (refine wpAny_ite_true (decide_eq_true c1) ?_; wp_walk using wpAny_loadPart' hl))
    exact ⟨_, rfl, h⟩
def rRep1 (K : PySem.W.Frag) : R2 := fun x y H Q => ∃ (a : Addr) (vs : List V), x = .ref a ∧ y = .int 1 ∧ SqT K H a vs ∧ Q (.ref a) H
theorem op_rep1 : OpR X (binaryOp .Mult) (rRep1 X.K) := by
  intro pins s σ H x y v u Q I rx ry h
  obtain ⟨a, vs, rfl, rfl, ha, q⟩ := h
  cases rx
  obtain ⟨tok, rfl⟩ := ry
  obtain ⟨us, rv, ⟨⟨oc, od, dt, os⟩, ho, c1, cap, c2⟩, hs⟩ := I.tuple ha
  simp only at c1 c2
  subst c1 c2
  exact wpAny_binaryOp_repeat_ref (T := "tuple") (U := "int") (by decide) ⟨_, ho, rfl⟩ (fun s2 => typeIs_int s2 1 tok) noFill_tuple_mul F.fills_int_mul
    F.slot_int_rmul repeat_tuple F.slot_int_index.lookup (call_meets F.slot_int_rmul (typeIs_int s 1 tok) F.entry_int_rmul (F.args_int_rmul_2 _ _)
      (int_rmul_tuple 1 tok a us.toArray cap od os) ⟨ho, rfl, ⟨_, ho, rfl⟩, call_meets F.slot_tuple_mul ⟨_, ho, rfl⟩ F.entry_tuple_mul
        (F.args_tuple_mul_2 _ _) (tuple_mul1 a us.toArray cap od os tok) ⟨ho, ⟨.ref a, H, I, rfl, q⟩⟩⟩)
def rRepL (K : PySem.W.Frag) : R2 := fun x y H Q => ∃ (a : Addr) (m : Int) (vs : List V), x = .ref a ∧ y = .int m ∧ SqT K H a vs ∧ vs ≠ [] ∧ 2 ≤ m ∧ m ≤ 1000 ∧ vs.length ≤ 1000 ∧ NewT H (List.replicate m.toNat vs).flatten Q
theorem op_repL : OpR X (binaryOp .Mult) (rRepL X.K) := by
  intro pins s σ H x y v u Q I rx ry h
  obtain ⟨a, m, vs, rfl, rfl, ha, hne, m1, m2, hl, q⟩ := h
  cases rx
  obtain ⟨tok, rfl⟩ := ry
  obtain ⟨us, rv, ⟨⟨oc, od, dt, os⟩, ho, c1, cap, c2⟩, hs⟩ := I.tuple ha
  simp only at c1 c2
  subst c1 c2
  have hn : us.length = vs.length := rv.length.symm
  have emp : us.toArray.isEmpty = false := by
    match us, hn with
    | [], hn => exact absurd (List.eq_nil_of_length_eq_zero hn.symm) hne
    | _ :: _, _ => rfl
  have sz : us.toArray.size = vs.length := by rw [List.size_toArray, hn]
  have big : ((us.toArray.size : Nat) : Int) * m ≤ 1000000 := by
    have a1 : ((vs.length : Nat) : Int) * m ≤ 1000 * m := Int.mul_le_mul_of_nonneg_right (by omega) (by omega)
    rw [sz]
    omega
  have prod : m.toNat * vs.length ≤ 1000 * 1000 := Nat.mul_le_mul (by omega) hl
  have ful : ∀ {α : Type} (l : List α), l.length = vs.length → (List.replicate m.toNat l).flatten.length ≤ sizeLine := fun l e => by
    rw [PyProof.Rows.lm_len_rep_flat, e, sizeLine_eq]
    omega
  have z0 : (decide (m < -(2 ^ 63)) || decide (m ≥ 2 ^ 63)) = false := by
    rw [Bool.or_eq_false_iff]
    exact ⟨decide_eq_false (by omega), decide_eq_false (by omega)⟩
  have z1 : (us.toArray.isEmpty || m == 1) = false := by
    rw [Bool.or_eq_false_iff]
    exact ⟨emp, beq_eq_false_iff_ne.mpr (by omega)⟩
  have z2 : (decide (m ≤ 0) || us.toArray.isEmpty) = false := by
    rw [Bool.or_eq_false_iff]
    exact ⟨decide_eq_false (by omega), emp⟩
  have z4 : Builtin.Tuple.tupleTooMany (((us.toArray.size : Nat) : Int) * m) = false := by
    unfold Builtin.Tuple.tupleTooMany
    rw [sizeLine_eq]
    exact decide_eq_false (by omega)
  have fin := lay_tup (tk := s.toks) (n := 0) I (rv.rep m.toNat) (ful vs rfl) q
  refine wpAny_binaryOp_repeat_ref (T := "tuple") (U := "int") (by decide) ⟨_, ho, rfl⟩ (fun s2 => typeIs_int s2 m tok) noFill_tuple_mul F.fills_int_mul
    F.slot_int_rmul repeat_tuple F.slot_int_index.lookup (call_meets F.slot_int_rmul (typeIs_int s m tok) F.entry_int_rmul (F.args_int_rmul_2 _ _)
      (int_rmul_tuple m tok a us.toArray cap od os) ⟨ho, rfl, ⟨_, ho, rfl⟩, call_meets F.slot_tuple_mul ⟨_, ho, rfl⟩ F.entry_tuple_mul
        (F.args_tuple_mul_2 _ _) (tuple_mulW a us.toArray cap od os m tok z0 z1 z2 (by omega) z4 (by rw [size_rep, List.size_toArray]; exact ful us hn)) ⟨ho, ?_⟩⟩)
  rw [size_rep]
  first | exact fin | simpa using fin
end
end Ap

end
section
/-! The primitive operators, over the hand layer's rules. -/
namespace Ap
open PySem PySem.Spec PyProof.Rows L2

theorem PE.imp {X : Cx} {e : Expr} {t t' : TE} (h : PE X e t) (k : ∀ σ H Q, t' σ H Q → t σ H Q) : PE X e t' := ⟨fun pins s σ H Q I q => h.run pins s σ H Q I (k σ H Q q)⟩
theorem PT.imp {X : Cx} {e : Expr} {t t' : TT} (h : PT X e t) (k : ∀ σ H Q, t' σ H Q → t σ H Q) : PT X e t' := ⟨fun pins s σ H Q I q => h.run pins s σ H Q I (k σ H Q q)⟩
theorem PA.imp {X : Cx} {e : List Expr} {t t' : TA} (h : PA X e t) (k : ∀ σ H Q, t' σ H Q → t σ H Q) : PA X e t' := ⟨fun pos pins s σ H Q I q => h.run pos pins s σ H Q I (k σ H Q q)⟩

/-! ### operands -/
def Od (C : Fx) (r : Env) (σ : St) (H : Hp) (d : D) (x : V) : Prop :=
  Rp (fz C r σ H) d x ∨ ∃ a vs ds, x = .ref a ∧ d = .list ds ∧ H a = some (.lst vs) ∧ Rps (fz C r σ H) ds vs
abbrev Ods (C : Fx) (r : Env) (σ : St) (H : Hp) : List D → List V → Prop := Paired (Od C r σ H)
section
variable {C : Fx} {r : Env} {σ : St} {H : Hp} {d : D} {x : V}
theorem Od.list {ds : List D} (h : Od C r σ H (.list ds) x) : ∃ a vs, x = .ref a ∧ H a = some (.lst vs) ∧ Rps (fz C r σ H) ds vs := by
  rcases h with h | ⟨a, vs, es, rfl, e, h1, h2⟩
  · cases h with
    | lst h1 h2 => exact ⟨_, _, rfl, msk_same _ _ h1, h2⟩
  · cases e
    exact ⟨a, vs, rfl, h1, h2⟩
theorem Od.tuple {ds : List D} (h : Od C r σ H (.tuple ds) x) : ∃ a vs, x = .ref a ∧ TupF (fz C r σ H) a vs ∧ Rps (fz C r σ H) ds vs := by
  rcases h with h | ⟨a, vs, es, rfl, e, h1, h2⟩
  · cases h with
    | tup h1 h2 => exact ⟨_, _, rfl, h1, h2⟩
  · cases e
theorem Od.int {i : Int} (h : Od C r σ H (.int i) x) : x = .int i := by
  rcases h with h | ⟨_, _, _, _, e, _⟩
  · cases h; rfl
  · cases e
theorem Od.bool {i : Bool} (h : Od C r σ H (.bool i) x) : x = .bl i := by
  rcases h with h | ⟨_, _, _, _, e, _⟩
  · cases h; rfl
  · cases e
theorem Od.str {i : Str} (h : Od C r σ H (.str i) x) : x = .str i := by
  rcases h with h | ⟨_, _, _, _, e, _⟩
  · cases h; rfl
  · cases e
theorem Od.none (h : Od C r σ H .none x) : x = .non := by
  rcases h with h | ⟨_, _, _, _, e, _⟩
  · cases h; rfl
  · cases e
theorem Od.dp (h : Od C r σ H d x) : Dp C.K H x d := by
  rcases h with h | ⟨a, vs, es, rfl, rfl, h1, h2⟩
  · exact (h.mono msk_same).dp
  · exact .lst (.of h1) (h2.mono msk_same).dp
/-- the view of a value -/
theorem VlOk.od (e : EOk C r σ H) {v : Vl} (h : VlOk C r σ H v x) (q : view r v = some d) : Od C r σ H d x := by
  cases v with
  | dat d' => cases q; exact .inl h
  | own i =>
    have h : σ[i]? = some (some x) := h
    have q : (moOf r[i]?).bind MO.dat = some d := q
    obtain ⟨m, q1, q3⟩ := Option.bind_eq_some_iff.mp q
    cases z : r[i]? with
    | none => rw [z] at q1; cases q1
    | some s =>
      cases s with
      | none => rw [z] at q1; cases q1
      | some s =>
        obtain ⟨v, e1, ok⟩ := e.slot i s z
        rw [z] at q1
        rw [h] at e1
        cases e1
        cases s with
        | own o =>
          cases q1
          obtain ⟨a, rfl, mo⟩ := ok
          cases m with
          | lst ds => cases q3; obtain ⟨vs, h1, h2⟩ := mo; exact .inr ⟨a, vs, ds, rfl, rfl, h1, h2⟩
          | _ => cases q3
        | bor o =>
          cases q1
          obtain ⟨a, rfl, mo⟩ := ok
          cases m with
          | lst ds => cases q3; obtain ⟨vs, h1, h2⟩ := mo; exact .inr ⟨a, vs, ds, rfl, rfl, h1, h2⟩
          | _ => cases q3
        | _ => cases q1
  | fn k => cases q
  | scr ns => cases q
theorem VlsOk.ods (e : EOk C r σ H) : ∀ {vs : List Vl} {xs : List V} {ds : List D}, VlsOk C r σ H vs xs → views r vs = some ds → Ods C r σ H ds xs
  | _, _, _, .nil, q => by cases q; exact .nil
  | v :: vs, _, _, .cons h t, q => by
    have q : ((view r v).bind fun d => (views r vs).map (d :: ·)) = some _ := q
    obtain ⟨d, q1, q2⟩ := Option.bind_eq_some_iff.mp q
    obtain ⟨ds, q3, rfl⟩ := Option.map_eq_some_iff.mp q2
    exact .cons (h.od e q1) (VlsOk.ods e t q3)
end

/-- what behind an operator is wanted: the heap may have grown, the value is d -/
def PostD (C : Fx) (r : Env) (σ : St) (H : Hp) (d : D) (Q : VK) : Prop := ∀ v H', Same H H' → Rp (fz C r σ H') d v → Q v H'
section
variable {C : Fx} {r : Env} {σ : St} {H : Hp} {d : D} {x : V} {Q : VK}
theorem PostD.at (q : PostD C r σ H d Q) {v : V} (h : Rp (fz C r σ H) d v) : Q v H := q v H (Same.refl H) h
theorem PostD.lst {ds : List D} {vs : List V} (q : PostD C r σ H (.list ds) Q) (e : EOk C r σ H) (h : Rps (fz C r σ H) ds vs) {p : Addr} (hp : H p = none) : Q (.ref p) (upd H p (.lst vs)) :=
  q _ _ (same_upd hp) (.lst (e.fresh hp) (h.mono (e.growS (same_upd hp))))
theorem PostD.tup {ds : List D} {vs : List V} (q : PostD C r σ H (.tuple ds) Q) (e : EOk C r σ H) (h : Rps (fz C r σ H) ds vs) : NewT H vs Q := fun p o hp hd =>
  q _ _ (same_upd hp) (.tup ⟨o, hd, e.fresh hp⟩ (h.mono (e.growS (same_upd hp))))
end

/-- an operator's rule serves the primitive o -/
def Prim2 (C : Fx) (o : Op) (t : R2) : Prop := ∀ (r : Env) (σ : St) (H : Hp) (a b d : D) (x y : V) (Q : VK), EOk C r σ H → Od C r σ H a x → Od C r σ H b y → prim o [a, b] = some d → PostD C r σ H d Q → t x y H Q
def Prim1 (C : Fx) (o : Op) (t : V → Hp → VK → Prop) : Prop := ∀ (r : Env) (σ : St) (H : Hp) (a d : D) (x : V) (Q : VK), EOk C r σ H → Od C r σ H a x → prim o [a] = some d → PostD C r σ H d Q → t x H Q
def PrimN (C : Fx) (o : Op) (t : List V → Hp → VK → Prop) : Prop := ∀ (r : Env) (σ : St) (H : Hp) (as : List D) (d : D) (xs : List V) (Q : VK), EOk C r σ H → Ods C r σ H as xs → prim o as = some d → PostD C r σ H d Q → t xs H Q

section
variable {X : Cx} {C : Fx}
theorem lim_eq : lim = sizeLine := by decide
/-! ### + -/
def tAddR (K : PySem.W.Frag) : R2 := fun x y H Q => (rI0 (fun i j => .int (i + j)) x y H Q ∨ rCatL K x y H Q) ∨ (rCat x y H Q ∨ (∃ i j, x = .str i ∧ y = .str j ∧ i.length + j.length ≤ sizeLine ∧ Q (.str (i ++ j)) H))
theorem or_add : OpR X (binaryOp .Add) (tAddR X.K) := (op_add.or op_catL).or (op_cat.or op_add_str)
theorem p_add : Prim2 C .add (tAddR C.K) := by
  intro r σ H a b d x y Q e ha hb hp q
  have hp : addD a b = some d := hp
  unfold addD at hp
  split at hp
  · cases hp
    exact .inl (.inl ⟨_, _, ha.int, hb.int, q.at (.int _)⟩)
  · split at hp
    · rename_i xs ys hl
      cases hp
      obtain ⟨p, vs, rfl, h1, h2⟩ := ha.tuple
      obtain ⟨p', vs', rfl, h3, h4⟩ := hb.tuple
      have e1 := h2.length
      have e2 := h4.length
      refine .inl (.inr ⟨p, p', vs, vs', rfl, rfl, h1.at, h3.at, by rw [← e1, ← e2, ← lim_eq]; exact hl, fun z => ?_, fun z z' => ?_, fun z z' => q.tup e (h2.append h4)⟩)
      · subst z
        cases h2
        exact q.at (.tup h3 h4)
      · subst z'
        cases h4
        rw [List.append_nil] at q
        exact q.at (.tup h1 h2)
    · cases hp
  · split at hp
    · rename_i xs ys hl
      cases hp
      obtain ⟨p, vs, rfl, h1, h2⟩ := ha.list
      obtain ⟨p', vs', rfl, h3, h4⟩ := hb.list
      have e1 := h2.length
      have e2 := h4.length
      exact .inr (.inl ⟨p, p', vs, vs', rfl, rfl, h1, h3, by rw [← e1, ← e2, ← lim_eq]; exact hl, fun t ht => q.lst e (h2.append h4) ht⟩)
    · cases hp
  · split at hp
    · rename_i hl
      cases hp
      exact .inr (.inr ⟨_, _, ha.str, hb.str, by rw [← lim_eq]; exact hl, q.at (.str _)⟩)
    · cases hp
  · cases hp
/-! ### ints -/
theorem p_sub : Prim2 C .sub (rI0 fun i j => .int (i - j)) := by
  intro r σ H a b d x y Q e ha hb hp q
  have hp : subD a b = some d := hp
  unfold subD at hp
  split at hp
  · cases hp
    exact ⟨_, _, ha.int, hb.int, q.at (.int _)⟩
  · cases hp
/-- a text times an int -/
def rRepS : R2 := fun x y H Q => ∃ (a : Str) (k : Int), x = .str a ∧ y = .int k ∧ 2 ≤ k ∧ k ≤ 1000 ∧ a.length ≤ 1000 ∧ a.length ≠ 0 ∧ Q (.str ⟨(List.replicate k.toNat a.cps).foldl (· ++ ·) #[]⟩) H
theorem op_repS : OpR X (binaryOp .Mult) rRepS := by
  intro pins s σ H x y v u Q I rx ry h
  obtain ⟨a, k, rfl, rfl, h1, h2, h3, h4, q⟩ := h
  obtain ⟨t, rfl⟩ := rx
  obtain ⟨t', rfl⟩ := ry
  have c1 : ¬ k < 1 := by omega
  have c2 : (k == 1 || a.length == 0) = false := by
    rw [Bool.or_eq_false_iff]
    exact ⟨beq_eq_false_iff_ne.mpr (by omega), beq_eq_false_iff_ne.mpr h4⟩
  refine PySem.P.mul_str ?_ (fun _ _ => ?_) (fun _ _ => ?_) ?_
  · rw [decide_eq_false (by omega), decide_eq_false (by omega)]
    rfl
  · have hm : (a.length : Int) * k ≤ 1000 * 1000 := Int.mul_le_mul (by omega) h2 (by omega) (by omega)
    have : (a.length : Int) ≤ ((2 : Int) ^ 63 - 1) / k := Int.le_ediv_of_mul_le (by omega) (by omega)
    omega
  · unfold PySem.Builtin.Str.tooLong
    rw [sizeLine_eq]
    have hm : a.length * k.toNat ≤ 1000 * 1000 := Nat.mul_le_mul h3 (by omega)
    exact decide_eq_false (by omega)
  · rw [if_neg c1, if_neg (by rw [c2]; decide)]
    refine ⟨?_, ⟨.str _, H, I.tok _, ⟨_, rfl⟩, q⟩⟩
    have hm : k.toNat * a.length ≤ 1000 * 1000 := Nat.mul_le_mul (by omega) h3
    have hz : ∀ (m : Nat) (acc : Array Nat), (List.foldl (fun x1 x2 => x1 ++ x2) acc (List.replicate m a.cps)).size = acc.size + m * a.length := fun m => by
      induction m with
      | zero => intro acc; simp
      | succ m ih =>
        intro acc
        rw [List.replicate_succ, List.foldl_cons, ih, Array.size_append, Nat.succ_mul]
        show acc.size + a.length + m * a.length = _
        omega
    show (List.foldl (fun x1 x2 => x1 ++ x2) #[] (List.replicate k.toNat a.cps)).size ≤ _
    rw [hz]
    simp only [Array.size_empty]
    rw [sizeLine_eq]
    omega
def tMulR (K : PySem.W.Frag) : R2 := fun x y H Q => rI CMul (fun i j => .int (i * j)) x y H Q ∨ (rI CMulX (fun i j => .int (i * j)) x y H Q ∨ (rRepL K x y H Q ∨ (rRep x y H Q ∨ (rRep1 K x y H Q ∨ rRepS x y H Q))))
theorem or_mul : OpR X (binaryOp .Mult) (tMulR X.K) := op_mul.or (op_mulX.or (op_repL.or (op_rep.or (op_rep1.or op_repS))))
theorem smallI_ok {i : Int} (h : smallI i = true) : -(2 ^ 64) < i ∧ i < 2 ^ 64 := by
  unfold smallI at h
  simp only [Bool.and_eq_true, decide_eq_true_eq] at h
  omega
theorem p_mul : Prim2 C .mul (tMulR C.K) := by
  intro r σ H a b d x y Q e ha hb hp q
  have hp : mulD a b = some d := hp
  unfold mulD at hp
  split at hp
  · split at hp
    · rename_i hs
      cases hp
      rcases Bool.or_eq_true_iff.mp hs with hs | hs
      · refine .inl ⟨_, _, ha.int, hb.int, ?_, q.at (.int _)⟩
        rcases Bool.or_eq_true_iff.mp hs with h | h
        · exact .inl (smallI_ok h)
        · exact .inr (smallI_ok h)
      · obtain ⟨h1, h2⟩ := Bool.and_eq_true_iff.mp hs
        refine .inr (.inl ⟨_, _, ha.int, hb.int, ?_, q.at (.int _)⟩)
        exact mulx_ok (of_decide_eq_true h1) (of_decide_eq_true h2) (by decide)
    · cases hp
  · split at hp
    · rename_i xs k hk
      cases hp
      subst hk
      obtain ⟨p, vs, rfl, h1, h2⟩ := ha.tuple
      exact .inr (.inr (.inr (.inr (.inl ⟨p, vs, rfl, hb.int, h1.at, q.at (.tup h1 h2)⟩))))
    split at hp
    · rename_i xs k _ hl
      cases hp
      obtain ⟨p, vs, rfl, h1, h2⟩ := ha.tuple
      have e1 := h2.length
      refine .inr (.inr (.inl ⟨p, _, vs, rfl, hb.int, h1.at, ?_, hl.1, hl.2.1, by rw [← e1]; exact hl.2.2.1, q.tup e (h2.rep _)⟩))
      intro z
      subst z
      cases h2
      exact hl.2.2.2 rfl
    · cases hp
  · split at hp
    · rename_i xs k hl
      cases hp
      exact .inr (.inr (.inr (.inr (.inr ⟨_, _, ha.str, hb.int, hl.1, hl.2.1, hl.2.2.1, hl.2.2.2, q.at (.str _)⟩))))
    · cases hp
  · split at hp
    · rename_i xs k hl
      cases hp
      obtain ⟨p, vs, rfl, h1, h2⟩ := ha.list
      have e1 := h2.length
      exact .inr (.inr (.inr (.inl ⟨p, _, vs, rfl, hb.int, h1, hl.1, hl.2.1, by rw [← e1, ← lim_eq]; exact hl.2.2, fun t ht => q.lst e (h2.rep _) ht⟩)))
    · cases hp
  · cases hp
theorem p_fdiv : Prim2 C .fdiv (rI CDivW fun i j => .int (i / j)) := by
  intro r σ H a b d x y Q e ha hb hp q
  have hp : fdivD a b = some d := hp
  unfold fdivD at hp
  split at hp
  · split at hp
    · rename_i hl
      cases hp
      exact ⟨_, _, ha.int, hb.int, hl, q.at (.int _)⟩
    · cases hp
  · cases hp
theorem p_mod : Prim2 C .mod (rI (fun _ j => 0 < j) fun i j => .int (i % j)) := by
  intro r σ H a b d x y Q e ha hb hp q
  have hp : modD a b = some d := hp
  unfold modD at hp
  split at hp
  · split at hp
    · rename_i hl
      cases hp
      exact ⟨_, _, ha.int, hb.int, hl, q.at (.int _)⟩
    · cases hp
  · cases hp
theorem p_pow : Prim2 C .pow (rI CPow fun i j => .int (i ^ j.toNat)) := by
  intro r σ H a b d x y Q e ha hb hp q
  have hp : powD a b = some d := hp
  unfold powD at hp
  split at hp
  · split at hp
    · rename_i hl
      cases hp
      exact ⟨_, _, ha.int, hb.int, hl, q.at (.int _)⟩
    · cases hp
  · cases hp
theorem p_neg : Prim1 C .neg (rU fun i => .int (-i)) := by
  intro r σ H a d x Q e ha hp q
  have hp : negD a = some d := hp
  unfold negD at hp
  split at hp
  · cases hp
    exact ⟨_, ha.int, q.at (.int _)⟩
  · cases hp
theorem p_cmp {o : Op} {g : Int → Int → Bool} (h : ∀ a b, prim o [a, b] = cmpI g a b) : Prim2 C o (rI0 fun i j => .bl (g i j)) := by
  intro r σ H a b d x y Q e ha hb hp q
  rw [h] at hp
  unfold cmpI at hp
  split at hp
  · cases hp
    exact ⟨_, _, ha.int, hb.int, q.at (.bl _)⟩
  · cases hp
/-! ### ==, is, in -/
theorem Od.plain {r : Env} {σ : St} {H : Hp} {d : D} {x : V} (h : Od C r σ H d x) : d.plain = true := by
  rcases h with h | ⟨_, _, _, rfl, rfl, _, h⟩
  · exact h.plain
  · simp only [PyData.plain]; exact h.plain
def rEqP (K : PySem.W.Frag) : R2 := fun x y H Q => ∃ d e, Dp K H x d ∧ Dp K H y e ∧ d.plain = true ∧ e.plain = true ∧ min d.depth e.depth ≤ 64 ∧ Q (.bl (PyData.eqv d e)) H
def rNeP (K : PySem.W.Frag) : R2 := fun x y H Q => ∃ d e, Dp K H x d ∧ Dp K H y e ∧ d.plain = true ∧ e.plain = true ∧ min d.depth e.depth ≤ 64 ∧ Q (.bl (!PyData.eqv d e)) H
theorem or_eq (hu : X.A.units + 64 < cLine) : OpR X (compareOp .Eq) (rEqP X.K) := by
  intro pins s σ H x y v u Q I rx ry h
  obtain ⟨d, e, hd, he, p1, p2, hm, q⟩ := h
  obtain ⟨as, r1⟩ := Dp.reads I d x v hd rx
  obtain ⟨bs, r2⟩ := Dp.reads I e y u he ry
  exact SeqAt.eq_plain r1 r2 p1 p2 (by omega) ⟨.bl _, H, I, rfl, q⟩
theorem or_ne (hu : X.A.units + 64 < cLine) : OpR X (compareOp .NotEq) (rNeP X.K) := by
  intro pins s σ H x y v u Q I rx ry h
  obtain ⟨d, e, hd, he, p1, p2, hm, q⟩ := h
  obtain ⟨as, r1⟩ := Dp.reads I d x v hd rx
  obtain ⟨bs, r2⟩ := Dp.reads I e y u he ry
  exact SeqAt.ne_plain r1 r2 p1 p2 (by omega) ⟨.bl _, H, I, rfl, q⟩
theorem okP_min {a b : D} (h : (okP a || okP b) = true) : min a.depth b.depth ≤ 64 := by
  unfold okP at h
  simp only [Bool.or_eq_true, decide_eq_true_eq] at h
  omega
theorem p_eq : Prim2 C .eq (rEqP C.K) := by
  intro r σ H a b d x y Q e ha hb hp q
  have hp : eqD a b = some d := hp
  unfold eqD at hp
  split at hp
  · rename_i hs
    cases hp
    exact ⟨_, _, ha.dp, hb.dp, ha.plain, hb.plain, okP_min hs, q.at (.bl _)⟩
  · cases hp
theorem p_ne : Prim2 C .ne (rNeP C.K) := by
  intro r σ H a b d x y Q e ha hb hp q
  have hp : neD a b = some d := hp
  unfold neD at hp
  split at hp
  · rename_i hs
    cases hp
    exact ⟨_, _, ha.dp, hb.dp, ha.plain, hb.plain, okP_min hs, q.at (.bl _)⟩
  · cases hp
def rInP (K : PySem.W.Frag) : R2 := fun x y H Q => ∃ d e b, Dp K H x d ∧ Dp K H y e ∧ d.plain = true ∧ e.plain = true ∧ inD d e = some b ∧ Q (.bl b) H
def rNotInP (K : PySem.W.Frag) : R2 := fun x y H Q => ∃ d e b, Dp K H x d ∧ Dp K H y e ∧ d.plain = true ∧ e.plain = true ∧ inD d e = some b ∧ Q (.bl (!b)) H
theorem okP_in {a : D} {ds : List D} (h : (okP a || decide (PyData.depthAll ds + 1 ≤ 64)) = true) : min (PyData.depthAll ds) a.depth ≤ 64 := by
  unfold okP at h
  simp only [Bool.or_eq_true, decide_eq_true_eq] at h
  omega
theorem dp_str {K : PySem.W.Frag} {H : Hp} {x : V} {z : Str} (h : Dp K H x (.str z)) : x = .str z := by
  cases h
  rfl
theorem sign_at {K : PySem.W.Frag} {H : Hp} {x y : V} {a z : Str} {b : Bool} (hd : Dp K H x (.str a)) (he : Dp K H y (.str z)) (hm : signIn a z = some b) : ∃ (c : Nat) (z : Str), x = .str ⟨#[c]⟩ ∧ y = .str z ∧ b = decide (c ∈ z.cps.toList) := by
  unfold signIn at hm
  split at hm
  · rename_i c hc
    cases hm
    refine ⟨c, z, ?_, dp_str he, rfl⟩
    rw [dp_str hd]
    congr 1
    obtain ⟨cs⟩ := a
    have : cs = #[c] := by
      have h1 : cs.toList = [c] := hc
      rw [← Array.toArray_toList (xs := cs), h1]
    rw [this]
  · cases hm
theorem or_in (hu : X.A.units + 65 < cLine) : OpR X (compareOp .In) (rInP X.K) := by
  intro pins s σ H x y v u Q I rx ry h
  obtain ⟨d, e, b, hd, he, p1, p2, hm, q⟩ := h
  obtain ⟨as, r1⟩ := Dp.reads I d x v hd rx
  obtain ⟨bs, r2⟩ := Dp.reads I e y u he ry
  unfold inD at hm
  split at hm
  · obtain ⟨c, z, e1, e2, hb⟩ := sign_at hd he hm
    subst e1 e2 hb
    exact op_in_sign pins s σ H _ _ v u Q I rx ry ⟨c, z, rfl, rfl, q⟩
  · split at hm
    · rename_i hs
      cases hm
      have hs := okP_in (by simpa [okP, PyData.depth] using hs)
      exact SeqAt.in_list_data r2 r1 (by simpa [PyData.plain] using p2) p1 (by omega) ⟨.bl _, H, I, rfl, q⟩
    · cases hm
  · split at hm
    · rename_i hs
      cases hm
      have hs := okP_in (by simpa [okP, PyData.depth] using hs)
      exact SeqAt.in_tuple_data r2 r1 (by simpa [PyData.plain] using p2) p1 (by omega) ⟨.bl _, H, I, rfl, q⟩
    · cases hm
  · cases hm
theorem or_notin (hu : X.A.units + 65 < cLine) : OpR X (compareOp .NotIn) (rNotInP X.K) := by
  intro pins s σ H x y v u Q I rx ry h
  obtain ⟨d, e, b, hd, he, p1, p2, hm, q⟩ := h
  obtain ⟨as, r1⟩ := Dp.reads I d x v hd rx
  obtain ⟨bs, r2⟩ := Dp.reads I e y u he ry
  unfold inD at hm
  split at hm
  · obtain ⟨c, z, e1, e2, hb⟩ := sign_at hd he hm
    subst e1 e2 hb
    exact op_notIn_sign pins s σ H _ _ v u Q I rx ry ⟨c, z, rfl, rfl, q⟩
  · split at hm
    · rename_i hs
      cases hm
      have hs := okP_in (by simpa [okP, PyData.depth] using hs)
      exact SeqAt.notIn_list_data r2 r1 (by simpa [PyData.plain] using p2) p1 (by omega) ⟨.bl _, H, I, rfl, q⟩
    · cases hm
  · split at hm
    · rename_i hs
      cases hm
      have hs := okP_in (by simpa [okP, PyData.depth] using hs)
      exact SeqAt.notIn_tuple_data r2 r1 (by simpa [PyData.plain] using p2) p1 (by omega) ⟨.bl _, H, I, rfl, q⟩
    · cases hm
  · cases hm
theorem p_in : Prim2 C .inn (rInP C.K) := by
  intro r σ H a b d x y Q e ha hb hp q
  obtain ⟨z, h1, rfl⟩ := Option.map_eq_some_iff.mp (show (inD a b).map PyData.bool = some d from hp)
  exact ⟨_, _, z, ha.dp, hb.dp, ha.plain, hb.plain, h1, q.at (.bl _)⟩
theorem p_notin : Prim2 C .notin (rNotInP C.K) := by
  intro r σ H a b d x y Q e ha hb hp q
  obtain ⟨z, h1, rfl⟩ := Option.map_eq_some_iff.mp (show (inD a b).map (fun x => PyData.bool (!x)) = some d from hp)
  exact ⟨_, _, z, ha.dp, hb.dp, ha.plain, hb.plain, h1, q.at (.bl _)⟩
theorem Od.non_iff {r : Env} {σ : St} {H : Hp} {d : D} {x : V} (h : Od C r σ H d x) : decide (x = .non) = isNone d := by
  rcases h with h | ⟨_, _, _, rfl, rfl, _⟩
  · cases h <;> rfl
  · rfl
def tIsR : R2 := fun x y H Q => (y = .non ∧ Q (.bl (decide (x = .non))) H) ∨ rIsB x y H Q
def tIsntR : R2 := fun x y H Q => (y = .non ∧ Q (.bl (!decide (x = .non))) H) ∨ rNotB x y H Q
theorem or_is : OpR X (compareOp .Is) tIsR := op_isN.or op_isBl
theorem or_isnt : OpR X (compareOp .IsNot) tIsntR := op_notN.or op_notBl
theorem p_is : Prim2 C .is tIsR := by
  intro r σ H a b d x y Q e ha hb hp q
  have hp : isD a b = some d := hp
  unfold isD at hp
  split at hp
  · cases hp
    refine .inl ⟨hb.none, ?_⟩
    rw [ha.non_iff]
    exact q.at (.bl _)
  · cases hp
    exact .inr ⟨_, _, ha.bool, hb.bool, q.at (.bl _)⟩
  · cases hp
theorem p_isnot : Prim2 C .isnot tIsntR := by
  intro r σ H a b d x y Q e ha hb hp q
  have hp : isnotD a b = some d := hp
  unfold isnotD at hp
  split at hp
  · cases hp
    refine .inl ⟨hb.none, ?_⟩
    rw [ha.non_iff]
    exact q.at (.bl _)
  · cases hp
    exact .inr ⟨_, _, ha.bool, hb.bool, q.at (.bl _)⟩
  · cases hp
/-! ### places -/
theorem atI_map {F : Hp} {ds : List D} {vs : List V} {i : Int} {d : D} (h : Rps F ds vs) (e : atI ds i = some d) : ∃ v, atI vs i = some v ∧ Rp F d v := by
  unfold atI at e ⊢
  rw [← h.length]
  obtain ⟨j, e1, e2⟩ := Option.bind_eq_some_iff.mp e
  obtain ⟨v, h1, h2⟩ := h.get e2
  exact ⟨v, by rw [e1]; exact h1, h2⟩
theorem p_idx : Prim2 C .idx (rIx C.K) := by
  intro r σ H a b d x y Q e ha hb hp q
  have hp : idxD a b = some d := hp
  unfold idxD at hp
  split at hp
  · obtain ⟨p, vs, rfl, h1, h2⟩ := ha.list
    obtain ⟨v, h3, h4⟩ := atI_map h2 hp
    exact .inl ⟨p, vs, _, v, rfl, hb.int, .of h1, h3, q.at h4⟩
  · obtain ⟨p, vs, rfl, h1, h2⟩ := ha.tuple
    obtain ⟨v, h3, h4⟩ := atI_map h2 hp
    exact .inr (.inl ⟨p, vs, _, v, rfl, hb.int, h1.at, h3, q.at h4⟩)
  · cases hp
theorem cut_map {F : Hp} {ds : List D} {vs : List V} (h : Rps F ds vs) (lo hi : Option Int) : Rps F (cutD ds lo hi) (cutV vs lo hi) := by
  unfold cutD cutV
  rw [h.length]
  exact (h.drop _).take _
def tSlR (K : PySem.W.Frag) : V → Option Int → Option Int → Hp → VK → Prop := fun x lo hi H Q => rSlL K x lo hi H Q ∨ (rSlL2 K x lo hi H Q ∨ rSlS x lo hi H Q)
theorem sl_any : SlR X (tSlR X.K) := sl_list.or (sl_tupL.or sl_str)
theorem cut_whole {α : Type} {xs : List α} {lo hi : Option Int} (h : HT.sIx xs.length 0 lo = 0 ∧ HT.sIx xs.length xs.length hi = xs.length) : (xs.drop (HT.sIx xs.length 0 lo)).take (HT.sIx xs.length xs.length hi - HT.sIx xs.length 0 lo) = xs := by
  rw [h.1, h.2]
  simp
theorem p_slc {r : Env} {σ : St} {H : Hp} {a d : D} {x : V} {lo hi : Option Int} {Q : VK} (e : EOk C r σ H) (ha : Od C r σ H a x) (hp : slcD lo hi a = some d) (q : PostD C r σ H d Q) : tSlR C.K x lo hi H Q := by
  unfold slcD at hp
  split at hp
  · cases hp
    obtain ⟨p, vs, rfl, h1, h2⟩ := ha.list
    exact .inl ⟨p, vs, rfl, .of h1, fun t ht => q.lst e (cut_map h2 lo hi) ht⟩
  · cases hp
    obtain ⟨p, vs, rfl, h1, h2⟩ := ha.tuple
    refine .inr (.inl ⟨p, vs, rfl, h1.at, fun z => ?_, fun z => q.tup e (cut_map h2 lo hi)⟩)
    unfold cutD at q
    rw [← h2.length] at z
    rw [cut_whole z] at q
    exact q.at (.tup h1 h2)
  · split at hp
    · rename_i hl
      cases hp
      exact .inr (.inr ⟨_, ha.str, by rw [← lim_eq]; exact hl, q.at (.str _)⟩)
    · cases hp
  · cases hp
/-! ### built-ins -/
theorem p_len : PrimN C .len (fun xs H Q => ∃ x n, xs = [x] ∧ LenV C.K x H n ∧ Q (.int n) H) := by
  intro r σ H as d xs Q e ha hp q
  match as, xs, ha, hp with
  | [a], [x], .cons h .nil, hp =>
    have hp : lenD a = some d := hp
    unfold lenD at hp
    split at hp
    · cases hp
      obtain ⟨p, vs, rfl, h1, h2⟩ := h.list
      exact ⟨_, _, rfl, .inl ⟨vs, .of h1, h2.length⟩, q.at (.int _)⟩
    · cases hp
      obtain ⟨p, vs, rfl, h1, h2⟩ := h.tuple
      exact ⟨_, _, rfl, .inr ⟨vs, h1.at, h2.length⟩, q.at (.int _)⟩
    · split at hp
      · rename_i hl
        cases hp
        rw [h.str]
        exact ⟨_, _, rfl, ⟨by rw [← lim_eq]; exact hl, rfl⟩, q.at (.int _)⟩
      · cases hp
    · cases hp
  | [], _, _, hp => cases hp
  | _ :: _ :: _, _, _, hp => cases hp
theorem p_all : PrimN C .all (rAll C.K) := by
  intro r σ H as d xs Q e ha hp q
  match as, xs, ha, hp with
  | [.list a], [x], .cons h .nil, hp =>
    obtain ⟨bs, h1, rfl⟩ := Option.map_eq_some_iff.mp (show (boolsD a).map (fun bs => PyData.bool (bs.all id)) = some d from hp)
    obtain ⟨p, vs, rfl, h2, h3⟩ := h.list
    have z := h3.bools h1
    subst z
    exact ⟨p, bs, rfl, .of h2, q.at (.bl _)⟩
theorem p_any : PrimN C .any (rAny C.K) := by
  intro r σ H as d xs Q e ha hp q
  match as, xs, ha, hp with
  | [.list a], [x], .cons h .nil, hp =>
    obtain ⟨bs, h1, rfl⟩ := Option.map_eq_some_iff.mp (show (boolsD a).map (fun bs => PyData.bool (bs.any id)) = some d from hp)
    obtain ⟨p, vs, rfl, h2, h3⟩ := h.list
    have z := h3.bools h1
    subst z
    exact ⟨p, bs, rfl, .of h2, q.at (.bl _)⟩
theorem p_sum : PrimN C .sum (rSum C.K) := by
  intro r σ H as d xs Q e ha hp q
  match as, xs, ha, hp with
  | [.list a], [x], .cons h .nil, hp =>
    obtain ⟨bs, h1, rfl⟩ := Option.map_eq_some_iff.mp (show (intsD a).map (fun bs => PyData.int bs.sum) = some d from hp)
    obtain ⟨p, vs, rfl, h2, h3⟩ := h.list
    have z := h3.ints h1
    subst z
    exact ⟨p, bs, rfl, .of h2, q.at (.int _)⟩
theorem p_strI : PrimN C .strI (fun xs H Q => ∃ i : Int, xs = [.int i] ∧ i.natAbs.log2 < 1920 ∧ Q (.str (toString i)) H) := by
  intro r σ H as d xs Q e ha hp q
  match as, xs, ha, hp with
  | [.int i], [x], .cons h .nil, hp =>
    have hp : (if i.natAbs.log2 < 1920 then some (PyData.str (toString i)) else none) = some d := hp
    split at hp
    · rename_i hl
      cases hp
      exact ⟨i, by rw [h.int], hl, q.at (.str _)⟩
    · cases hp
theorem p_intS : PrimN C .intS (fun xs H Q => ∃ a n, xs = [.str a] ∧ PySem.intText? a = some n ∧ a.length ≤ 640 ∧ Q (.int n) H) := by
  intro r σ H as d xs Q e ha hp q
  match as, xs, ha, hp with
  | [.str a], [x], .cons h .nil, hp =>
    have hp : (if a.length ≤ 640 then (PySem.intText? a).map PyData.int else none) = some d := hp
    split at hp
    · rename_i hl
      obtain ⟨n, h1, rfl⟩ := Option.map_eq_some_iff.mp hp
      exact ⟨a, n, by rw [h.str], h1, hl, q.at (.int _)⟩
    · cases hp
theorem p_min2 : PrimN C .min2 (fun xs H Q => ∃ i j, xs = [.int i, .int j] ∧ Q (.int (if j < i then j else i)) H) := by
  intro r σ H as d xs Q e ha hp q
  match as, xs, ha, hp with
  | [.int a, .int b], [x, y], .cons h (.cons h' .nil), hp =>
    cases hp
    rw [h.int, h'.int]
    exact ⟨_, _, rfl, q.at (.int _)⟩
theorem p_max2 : PrimN C .max2 (fun xs H Q => ∃ i j, xs = [.int i, .int j] ∧ Q (.int (if j > i then j else i)) H) := by
  intro r σ H as d xs Q e ha hp q
  match as, xs, ha, hp with
  | [.int a, .int b], [x, y], .cons h (.cons h' .nil), hp =>
    cases hp
    rw [h.int, h'.int]
    exact ⟨_, _, rfl, q.at (.int _)⟩
theorem p_tupOf : PrimN C .tupOf (fun xs H Q => ∃ p ys, xs = [.ref p] ∧ ((SqL C.K H p ys ∧ NewT H ys Q) ∨ (SqT C.K H p ys ∧ Q (.ref p) H))) := by
  intro r σ H as d xs Q e ha hp q
  match as, xs, ha, hp with
  | [.list a], [x], .cons h .nil, hp =>
    cases hp
    obtain ⟨p, vs, rfl, h2, h3⟩ := h.list
    exact ⟨p, vs, rfl, .inl ⟨.of h2, q.tup e h3⟩⟩
  | [.tuple a], [x], .cons h .nil, hp =>
    cases hp
    obtain ⟨p, vs, rfl, h2, h3⟩ := h.tuple
    exact ⟨p, vs, rfl, .inr ⟨h2.at, q.at (.tup h2 h3)⟩⟩
theorem p_listOf : PrimN C .listOf (fun xs H Q => ∃ p ys, xs = [.ref p] ∧ (SqL C.K H p ys ∨ SqT C.K H p ys) ∧ ∀ l, H l = none → Q (.ref l) (upd H l (.lst ys))) := by
  intro r σ H as d xs Q e ha hp q
  match as, xs, ha, hp with
  | [.list a], [x], .cons h .nil, hp =>
    cases hp
    obtain ⟨p, vs, rfl, h2, h3⟩ := h.list
    exact ⟨p, vs, rfl, .inl (.of h2), fun l hl => q.lst e h3 hl⟩
  | [.tuple a], [x], .cons h .nil, hp =>
    cases hp
    obtain ⟨p, vs, rfl, h2, h3⟩ := h.tuple
    exact ⟨p, vs, rfl, .inr h2.at, fun l hl => q.lst e h3 hl⟩
end
end Ap

end
section
/-! Expressions of the core, form by form. -/
namespace Ap
open PySem PySem.Spec PyProof.Rows L2

def primR (o : Op) (vs : List Vl) (r : Env) : R Vl := (R.of (views r vs) r).bind fun ds _ => (R.of (prim o ds) r).bind fun d _ => .ok (.dat d) r
theorem ev_prim (F : Nat → FnS) (o : Op) (es : List Ex) (r : Env) : ev F (.prim o es) r = (evs F es r).bind fun vs r1 => primR o vs r1 := by rw [ev]; rfl
theorem evs_nil (F : Nat → FnS) (r : Env) : evs F [] r = .ok [] r := by rw [evs]
theorem evs_cons (F : Nat → FnS) (e : Ex) (es : List Ex) (r : Env) : evs F (e :: es) r = (ev F e r).bind fun v r1 => (evs F es r1).bind fun vs r2 => .ok (v :: vs) r2 := by rw [evs]

section
variable {G : Gx} {C : Fx} {W : WX} {F : Nat → FnS} {r r1 r2 : Env} {σ : St} {H H1 : Hp} {Q : VK}
/-- two steps one after another -/
theorem PostE.after {z : R Vl} (q : PostE C W r σ H Q z) (g : Grow C r r1 σ H H1) : PostE C W r1 σ H1 Q z := by
  cases z with
  | ok x r2 => exact fun v H' e g' h => q v H' e (g.trans g') h
  | exc c r2 => exact q
  | bad => exact q
theorem PostE.prim {o : Op} {vs : List Vl} {xs : List V} (q : PostE C W r σ H Q (primR o vs r)) (e : EOk C r σ H) (h : VlsOk C r σ H vs xs) : ∃ ds d, Ods C r σ H ds xs ∧ Ap.prim o ds = some d ∧ PostD C r σ H d Q := by
  unfold primR at q
  cases h1 : views r vs with
  | none => rw [h1] at q; exact q.elim
  | some ds =>
    rw [h1] at q
    have q : PostE C W r σ H Q ((R.of (Ap.prim o ds) r).bind fun d _ => .ok (.dat d) r) := q
    cases h2 : Ap.prim o ds with
    | none => rw [h2] at q; exact q.elim
    | some d =>
      rw [h2] at q
      exact ⟨ds, d, h.ods e h1, h2, fun v H' s rp => q v H' (e.grown s) (e.growS s) rp⟩
/-- as a test -/
theorem PostT.val {z : R Vl} {Q : Bool → Hp → Prop} (q : PostT C W r σ H Q (z.bind asBool)) : PostE C W r σ H (fun x H1 => ∃ c, x = .bl c ∧ Q c H1) z := by
  cases z with
  | ok x r1 =>
    intro v H1 e g h
    have q : PostT C W r σ H Q (asBool x r1) := q
    unfold asBool at q
    split at q
    · cases h
      exact ⟨_, rfl, q H1 e g⟩
    · exact q.elim
  | exc c r2 => exact q
  | bad => exact q
theorem tEvT.val {e : Ex} {Q : Bool → Hp → Prop} (q : tEvT G F W e σ H Q) : tEv G F W e σ H (fun x H1 => ∃ c, x = .bl c ∧ Q c H1) :=
  let ⟨C, h, r, e, q⟩ := q
  ⟨C, h, r, e, q.val⟩

/-! ### readings -/
theorem rd_bin {o : Op} {t : R2} {a b : Ex} (hp : ∀ C : Fx, C.G = G → Prim2 C o t) (q : tEv G F W (.prim o [a, b]) σ H Q) : tOp t (tEv G F W a) (tEv G F W b) σ H Q := by
  obtain ⟨C, rfl, r, e, q⟩ := q
  rw [ev_prim, evs_cons] at q
  refine ⟨C, rfl, r, e, ?_⟩
  cases h1 : ev F a r with
  | bad => rw [h1] at q; exact q.elim
  | exc c r1 => rw [h1] at q; exact q
  | ok va r1 =>
    rw [h1] at q
    intro x H1 e1 g1 v1
    refine ⟨C, rfl, r1, e1, ?_⟩
    have q : PostE C W r σ H Q (((evs F [b] r1).bind fun vs r2 => .ok (va :: vs) r2).bind fun vs r1 => primR o vs r1) := q
    rw [evs_cons] at q
    cases h2 : ev F b r1 with
    | bad => rw [h2] at q; exact q.elim
    | exc c r2 => rw [h2] at q; exact q
    | ok vb r2 =>
      rw [h2] at q
      intro y H2 e2 g2 v2
      have q : PostE C W r σ H Q (((((evs F [] r2).bind fun vs r2 => .ok (vb :: vs) r2)).bind fun vs r2 => .ok (va :: vs) r2).bind fun vs r1 => primR o vs r1) := q
      rw [evs_nil] at q
      have q : PostE C W r σ H Q (primR o [va, vb] r2) := q
      obtain ⟨ds, d, h3, h4, h5⟩ := (q.after (g1.trans g2)).prim e2 (.cons (v1.grow g2) (.cons v2 .nil))
      match ds, h3, h4 with
      | [p, q], .cons i (.cons j .nil), h4 => exact hp C rfl r2 σ H2 p q d x y Q e2 i j h4 h5
theorem rd_un {o : Op} {t : V → Hp → VK → Prop} {a : Ex} (hp : ∀ C : Fx, C.G = G → Prim1 C o t) (q : tEv G F W (.prim o [a]) σ H Q) : tUn t (tEv G F W a) σ H Q := by
  obtain ⟨C, rfl, r, e, q⟩ := q
  rw [ev_prim, evs_cons] at q
  refine ⟨C, rfl, r, e, ?_⟩
  cases h1 : ev F a r with
  | bad => rw [h1] at q; exact q.elim
  | exc c r1 => rw [h1] at q; exact q
  | ok va r1 =>
    rw [h1] at q
    intro x H1 e1 g1 v1
    have q : PostE C W r σ H Q (((evs F [] r1).bind fun vs r2 => .ok (va :: vs) r2).bind fun vs r1 => primR o vs r1) := q
    rw [evs_nil] at q
    have q : PostE C W r σ H Q (primR o [va] r1) := q
    obtain ⟨ds, d, h3, h4, h5⟩ := (q.after g1).prim e1 (.cons v1 .nil)
    match ds, h3, h4 with
    | [p], .cons i .nil, h4 => exact hp C rfl r1 σ H1 p d x Q e1 i h4 h5
theorem rd_call {o : Op} {t : List V → Hp → VK → Prop} {es : List Ex} (hp : ∀ C : Fx, C.G = G → PrimN C o t) (q : tEv G F W (.prim o es) σ H Q) : tCB t (tEvs G F W es) σ H Q := by
  obtain ⟨C, rfl, r, e, q⟩ := q
  rw [ev_prim] at q
  refine ⟨C, rfl, r, e, ?_⟩
  cases h1 : evs F es r with
  | bad => rw [h1] at q; exact q.elim
  | exc c r1 => rw [h1] at q; exact q
  | ok vs r1 =>
    rw [h1] at q
    intro xs H1 e1 g1 v1
    have q : PostE C W r σ H Q (primR o vs r1) := q
    obtain ⟨ds, d, h3, h4, h5⟩ := (q.after g1).prim e1 v1
    exact hp C rfl r1 σ H1 ds d xs Q e1 h3 h4 h5
/-- arguments that are data -/
theorem VlsOk.rps (e : EOk C r σ H) : ∀ {vs : List Vl} {xs : List V} {ds : List D}, VlsOk C r σ H vs xs → asDats r vs = some ds → Rps (fz C r σ H) ds xs
  | _, _, _, .nil, q => by cases q; exact .nil
  | .dat d :: vs, _, _, .cons h t, q => by
    obtain ⟨ds, q3, rfl⟩ := Option.map_eq_some_iff.mp (show (asDats r vs).map (d :: ·) = some _ from q)
    exact .cons h (VlsOk.rps e t q3)
  | .own _ :: _, _, _, .cons _ _, q => by cases q
  | .fn _ :: _, _, _, .cons _ _, q => by cases q
  | .scr _ :: _, _, _, .cons _ _, q => by cases q
theorem rd_tup {es : List Ex} (q : tEv G F W (.tup es) σ H Q) : tTupL (tEvs G F W es) σ H Q := by
  obtain ⟨C, rfl, r, e, q⟩ := q
  rw [ev] at q
  refine ⟨C, rfl, r, e, ?_⟩
  cases h1 : evs F es r with
  | bad => rw [h1] at q; exact q.elim
  | exc c r1 => rw [h1] at q; exact q
  | ok vs r1 =>
    rw [h1] at q
    intro xs H1 e1 g1 v1
    have q : PostE C W r σ H Q ((R.of (asDats r1 vs) r1).bind fun ds _ => if ds.length ≤ lim then .ok (.dat (.tuple ds)) r1 else .bad) := q
    cases h2 : asDats r1 vs with
    | none => rw [h2] at q; exact q.elim
    | some ds =>
      rw [h2] at q
      have q : PostE C W r σ H Q (if ds.length ≤ lim then .ok (.dat (.tuple ds)) r1 else .bad) := q
      have rp := v1.rps e1 h2
      split at q
      · rename_i hl
        refine ⟨by rw [← rp.length, ← lim_eq]; exact hl, fun p o hp hd => ?_⟩
        exact q _ _ (e1.grown (same_upd hp)) (g1.trans (e1.growS (same_upd hp))) (.tup ⟨o, hd, e1.fresh hp⟩ (rp.mono (e1.growS (same_upd hp))))
      · exact q.elim
theorem rd_lst {es : List Ex} (q : tEv G F W (.lst es) σ H Q) : tLst (tEvs G F W es) σ H Q := by
  obtain ⟨C, rfl, r, e, q⟩ := q
  rw [ev] at q
  refine ⟨C, rfl, r, e, ?_⟩
  cases h1 : evs F es r with
  | bad => rw [h1] at q; exact q.elim
  | exc c r1 => rw [h1] at q; exact q
  | ok vs r1 =>
    rw [h1] at q
    intro xs H1 e1 g1 v1
    have q : PostE C W r σ H Q ((R.of (asDats r1 vs) r1).bind fun ds _ => if ds.length ≤ lim then .ok (.dat (.list ds)) r1 else .bad) := q
    cases h2 : asDats r1 vs with
    | none => rw [h2] at q; exact q.elim
    | some ds =>
      rw [h2] at q
      have q : PostE C W r σ H Q (if ds.length ≤ lim then .ok (.dat (.list ds)) r1 else .bad) := q
      have rp := v1.rps e1 h2
      split at q
      · rename_i hl
        refine ⟨by rw [← rp.length, ← lim_eq]; exact hl, fun p hp => ?_⟩
        exact q _ _ (e1.grown (same_upd hp)) (g1.trans (e1.growS (same_upd hp))) (.lst (e1.fresh hp) (rp.mono (e1.growS (same_upd hp))))
      · exact q.elim
theorem Ods.rps : ∀ {ds : List D} {xs : List V}, Ods C r σ H ds xs → (∀ d x, Od C r σ H d x → Rp (fz C r σ H) d x) → Rps (fz C r σ H) ds xs
  | _, _, .nil, _ => .nil
  | _, _, .cons h t, k => .cons (k _ _ h) (Ods.rps t k)
end
end Ap

end
section
/-! and, or, not, if; names, constants; calls of defs. -/
namespace Ap
open PySem PySem.Spec PyProof.Rows L2

section
variable {G : Gx} {C : Fx} {W : WX} {F : Nat → FnS} {r r1 r2 : Env} {σ : St} {H H1 : Hp} {Q : VK}
theorem PostT.after {z : R Bool} {Q : Bool → Hp → Prop} (q : PostT C W r σ H Q z) (g : Grow C r r1 σ H H1) : PostT C W r1 σ H1 Q z := by
  cases z with
  | ok x r2 => exact fun H' e g' => q H' e (g.trans g')
  | exc c r2 => exact q
  | bad => exact q
/-- a bool first -/
theorem bool_first {e : Ex} {f : Bool → Env → R Vl} (ek : EOk C r σ H) (q : PostE C W r σ H Q ((ev F e r).bind fun v r1 => (asBool v r1).bind fun x _ => f x r1)) :
    tEvT C.G F W e σ H (fun c H1 => ∃ r1, EOk C r1 σ H1 ∧ PostE C W r1 σ H1 Q (f c r1)) := by
  refine ⟨C, rfl, r, ek, ?_⟩
  cases h1 : ev F e r with
  | bad => rw [h1] at q; exact q.elim
  | exc c r1 => rw [h1] at q; exact q
  | ok v r1 =>
    rw [h1] at q
    show PostT C W r σ H _ (asBool v r1)
    have q : PostE C W r σ H Q ((asBool v r1).bind fun x _ => f x r1) := q
    unfold asBool at q ⊢
    split at q
    · rename_i b
      exact fun H1 e1 g1 => ⟨r1, e1, PostE.after q g1⟩
    · exact q.elim
theorem bool_firstT {e : Ex} {f : Bool → Env → R Vl} {Q : Bool → Hp → Prop} (ek : EOk C r σ H) (q : PostT C W r σ H Q (((ev F e r).bind fun v r1 => (asBool v r1).bind fun x _ => f x r1).bind asBool)) :
    tEvT C.G F W e σ H (fun c H1 => ∃ r1, EOk C r1 σ H1 ∧ PostT C W r1 σ H1 Q ((f c r1).bind asBool)) := by
  refine ⟨C, rfl, r, ek, ?_⟩
  cases h1 : ev F e r with
  | bad => rw [h1] at q; exact q.elim
  | exc c r1 => rw [h1] at q; exact q
  | ok v r1 =>
    rw [h1] at q
    show PostT C W r σ H _ (asBool v r1)
    have q : PostT C W r σ H Q (((asBool v r1).bind fun x _ => f x r1).bind asBool) := q
    unfold asBool at q ⊢
    split at q
    · rename_i b
      exact fun H1 e1 g1 => ⟨r1, e1, PostT.after q g1⟩
    · exact q.elim
theorem rd_and {a b : Ex} (q : tEv G F W (.andE a b) σ H Q) : tAndV (tEv G F W a) (tEv G F W b) σ H Q := by
  obtain ⟨C, rfl, r, e, q⟩ := q
  rw [ev] at q
  obtain ⟨C', hC, r', e', q'⟩ := (bool_first (f := fun x r1 => if x then ev F b r1 else .ok (.dat (.bool false)) r1) e q).val
  refine ⟨C', hC, r', e', ?_⟩
  cases h1 : ev F a r' with
  | bad => rw [h1] at q'; exact q'.elim
  | exc c r1 => rw [h1] at q'; exact q'
  | ok va r1 =>
    rw [h1] at q'
    intro x H1 e1 g1 v1
    obtain ⟨c, rfl, r2, e2, q2⟩ := q' x H1 e1 g1 v1
    refine ⟨c, rfl, ?_⟩
    cases c with
    | true => exact ⟨C, rfl, r2, e2, q2⟩
    | false => exact q2 _ _ e2 (Same.refl _) (.bl false)
theorem rd_or {a b : Ex} (q : tEv G F W (.orE a b) σ H Q) : tOrV (tEv G F W a) (tEv G F W b) σ H Q := by
  obtain ⟨C, rfl, r, e, q⟩ := q
  rw [ev] at q
  obtain ⟨C', hC, r', e', q'⟩ := (bool_first (f := fun x r1 => if x then .ok (.dat (.bool true)) r1 else ev F b r1) e q).val
  refine ⟨C', hC, r', e', ?_⟩
  cases h1 : ev F a r' with
  | bad => rw [h1] at q'; exact q'.elim
  | exc c r1 => rw [h1] at q'; exact q'
  | ok va r1 =>
    rw [h1] at q'
    intro x H1 e1 g1 v1
    obtain ⟨c, rfl, r2, e2, q2⟩ := q' x H1 e1 g1 v1
    refine ⟨c, rfl, ?_⟩
    cases c with
    | true => exact q2 _ _ e2 (Same.refl _) (.bl true)
    | false => exact ⟨C, rfl, r2, e2, q2⟩
theorem rd_not {a : Ex} (q : tEv G F W (.notE a) σ H Q) : tNotV (tEv G F W a) σ H Q := by
  obtain ⟨C, rfl, r, e, q⟩ := q
  rw [ev] at q
  obtain ⟨C', hC, r', e', q'⟩ := (bool_first (f := fun x r1 => .ok (.dat (.bool (!x))) r1) e q).val
  refine ⟨C', hC, r', e', ?_⟩
  cases h1 : ev F a r' with
  | bad => rw [h1] at q'; exact q'.elim
  | exc c r1 => rw [h1] at q'; exact q'
  | ok va r1 =>
    rw [h1] at q'
    intro x H1 e1 g1 v1
    obtain ⟨c, rfl, r2, e2, q2⟩ := q' x H1 e1 g1 v1
    exact ⟨c, rfl, q2 _ _ e2 (Same.refl _) (.bl (!c))⟩
theorem rd_ite {a b c : Ex} (q : tEv G F W (.ite c a b) σ H Q) : tIf (tEvT G F W c) (tEv G F W a) (tEv G F W b) σ H Q := by
  obtain ⟨C, rfl, r, e, q⟩ := q
  rw [ev] at q
  obtain ⟨C', hC, r', e', q'⟩ := bool_first (f := fun x r1 => if x then ev F a r1 else ev F b r1) e q
  refine ⟨C', hC, r', e', ?_⟩
  cases h1 : (ev F c r').bind asBool with
  | bad => rw [h1] at q'; exact q'.elim
  | exc c r1 => rw [h1] at q'; exact q'
  | ok x r1 =>
    rw [h1] at q'
    intro H1 e1 g1
    obtain ⟨r2, e2, q2⟩ := q' H1 e1 g1
    cases x with
    | true => exact ⟨C, rfl, r2, e2, q2⟩
    | false => exact ⟨C, rfl, r2, e2, q2⟩
/-! tests -/
theorem rd_andT {a b : Ex} {Q : Bool → Hp → Prop} (q : tEvT G F W (.andE a b) σ H Q) : tAnd (tEvT G F W a) (tEvT G F W b) σ H Q := by
  obtain ⟨C, rfl, r, e, q⟩ := q
  rw [ev] at q
  obtain ⟨C', hC, r', e', q'⟩ := bool_firstT (f := fun x r1 => if x then ev F b r1 else .ok (.dat (.bool false)) r1) e q
  refine ⟨C', hC, r', e', ?_⟩
  cases h1 : (ev F a r').bind asBool with
  | bad => rw [h1] at q'; exact q'.elim
  | exc c r1 => rw [h1] at q'; exact q'
  | ok x r1 =>
    rw [h1] at q'
    intro H1 e1 g1
    obtain ⟨r2, e2, q2⟩ := q' H1 e1 g1
    cases x with
    | true => exact ⟨C, rfl, r2, e2, q2⟩
    | false => exact q2 _ e2 (Same.refl _)
theorem rd_orT {a b : Ex} {Q : Bool → Hp → Prop} (q : tEvT G F W (.orE a b) σ H Q) : tOr (tEvT G F W a) (tEvT G F W b) σ H Q := by
  obtain ⟨C, rfl, r, e, q⟩ := q
  rw [ev] at q
  obtain ⟨C', hC, r', e', q'⟩ := bool_firstT (f := fun x r1 => if x then .ok (.dat (.bool true)) r1 else ev F b r1) e q
  refine ⟨C', hC, r', e', ?_⟩
  cases h1 : (ev F a r').bind asBool with
  | bad => rw [h1] at q'; exact q'.elim
  | exc c r1 => rw [h1] at q'; exact q'
  | ok x r1 =>
    rw [h1] at q'
    intro H1 e1 g1
    obtain ⟨r2, e2, q2⟩ := q' H1 e1 g1
    cases x with
    | true => exact q2 _ e2 (Same.refl _)
    | false => exact ⟨C, rfl, r2, e2, q2⟩
theorem rd_notT {a : Ex} {Q : Bool → Hp → Prop} (q : tEvT G F W (.notE a) σ H Q) : tNot (tEvT G F W a) σ H Q := by
  obtain ⟨C, rfl, r, e, q⟩ := q
  rw [ev] at q
  obtain ⟨C', hC, r', e', q'⟩ := bool_firstT (f := fun x r1 => .ok (.dat (.bool (!x))) r1) e q
  refine ⟨C', hC, r', e', ?_⟩
  cases h1 : (ev F a r').bind asBool with
  | bad => rw [h1] at q'; exact q'.elim
  | exc c r1 => rw [h1] at q'; exact q'
  | ok x r1 =>
    rw [h1] at q'
    intro H1 e1 g1
    obtain ⟨r2, e2, q2⟩ := q' H1 e1 g1
    exact q2 _ e2 (Same.refl _)
/-! a chain -/
theorem rd_chain {o p : Op} {t t' : R2} {a b c : Ex} (hp : ∀ C : Fx, C.G = G → Prim2 C o t) (hp' : ∀ C : Fx, C.G = G → Prim2 C p t') (q : tEv G F W (.chain o p a b c) σ H Q) : tChain t t' (tEv G F W a) (tEv G F W b) (tEv G F W c) σ H Q := by
  obtain ⟨C, rfl, r, e, q⟩ := q
  rw [ev] at q
  refine ⟨C, rfl, r, e, ?_⟩
  cases h1 : ev F a r with
  | bad => rw [h1] at q; exact q.elim
  | exc c r1 => rw [h1] at q; exact q
  | ok va r1 =>
    rw [h1] at q
    intro x H1 e1 g1 v1
    refine ⟨C, rfl, r1, e1, ?_⟩
    rw [R.bind_ok] at q
    cases h2 : ev F b r1 with
    | bad => rw [h2] at q; exact q.elim
    | exc c r2 => rw [h2] at q; exact q
    | ok vb r2 =>
      rw [h2, R.bind_ok] at q
      intro y H2 e2 g2 v2
      cases h3 : views r2 [va, vb] with
      | none => rw [h3] at q; exact q.elim
      | some ds =>
        rw [h3, R.of_some, R.bind_ok] at q
        cases h4 : Ap.prim o ds with
        | none => rw [h4] at q; exact q.elim
        | some d =>
          rw [h4, R.of_some, R.bind_ok] at q
          have od := VlsOk.ods e2 (.cons (v1.grow g2) (.cons v2 .nil) : VlsOk C r2 σ H2 [va, vb] [x, y]) h3
          match ds, od, h4 with
          | [p1, q1], .cons i (.cons j .nil), h4 =>
            refine hp C rfl r2 σ H2 p1 q1 d x y _ e2 i j h4 ?_
            intro z H3 s3 rp
            have e3 := e2.grown s3
            have g3 : Grow C r2 r2 σ H2 H3 := e2.growS s3
            unfold asBool at q
            split at q
            · rename_i k heq
              cases heq
              cases rp
              refine ⟨k, rfl, ?_⟩
              rw [R.bind_ok] at q
              cases k with
              | false => exact q _ _ e3 ((g1.trans g2).trans g3) (.bl false)
              | true =>
                rw [if_pos rfl] at q ⊢
                refine ⟨C, rfl, r2, e3, ?_⟩
                cases h5 : ev F c r2 with
                | bad => rw [h5] at q; exact q.elim
                | exc c r3 => rw [h5] at q; exact q
                | ok vc r3 =>
                  rw [h5, R.bind_ok] at q
                  intro w H4 e4 g4 v4
                  cases h6 : views r3 [vb, vc] with
                  | none => rw [h6] at q; exact q.elim
                  | some es =>
                    rw [h6, R.of_some, R.bind_ok] at q
                    cases h7 : Ap.prim p es with
                    | none => rw [h7] at q; exact q.elim
                    | some d' =>
                      rw [h7, R.of_some, R.bind_ok] at q
                      have od := VlsOk.ods e4 (.cons ((v2.grow g3).grow g4) (.cons v4 .nil) : VlsOk C r3 σ H4 [vb, vc] [y, w]) h6
                      match es, od, h7 with
                      | [p2, q2], .cons i2 (.cons j2 .nil), h7 =>
                        exact hp' C rfl r3 σ H4 p2 q2 d' y w Q e4 i2 j2 h7 fun z5 H5 s5 rp5 => q z5 H5 (e4.grown s5) ((((g1.trans g2).trans g3).trans g4).trans (e4.growS s5)) rp5
            · exact q.elim
/-! names and constants -/
theorem rd_var {i : Nat} (q : tEv G F W (.var i) σ H Q) : tVar i σ H Q := by
  obtain ⟨C, rfl, r, e, q⟩ := q
  rw [ev] at q
  unfold rdVar at q
  split at q
  · rename_i d h
    obtain ⟨v, h1, h2⟩ := e.slot i _ h
    exact ⟨v, h1, q v H e (Same.refl _) h2⟩
  · rename_i d h
    obtain ⟨v, h1, h2⟩ := e.slot i _ h
    exact ⟨v, h1, q v H e (Same.refl _) h1⟩
  · rename_i d h
    obtain ⟨v, h1, h2⟩ := e.slot i _ h
    exact ⟨v, h1, q v H e (Same.refl _) h1⟩
  · rename_i d h
    obtain ⟨v, h1, h2⟩ := e.slot i _ h
    exact ⟨v, h1, q v H e (Same.refl _) h2⟩
  · rename_i d h
    obtain ⟨v, h1, h2⟩ := e.slot i _ h
    exact ⟨v, h1, q v H e (Same.refl _) h2⟩
  · exact q.elim
theorem rd_lit {d : D} {v : V} (h : ∀ F : Hp, Rp F d v) (q : tEv G F W (.lit d) σ H Q) : tC v σ H Q := by
  obtain ⟨C, rfl, r, e, q⟩ := q
  rw [ev] at q
  exact q v H e (Same.refl _) (h _)
theorem rd_glb {x : Str} {d : D} {v : V} (h : ∀ F : Hp, Rp F d v) (q : tEv G F W (.glb x d) σ H Q) : tC v σ H Q := by
  obtain ⟨C, rfl, r, e, q⟩ := q
  rw [ev] at q
  exact q v H e (Same.refl _) (h _)
/-! arguments -/
theorem rd_anil {Q' : List V → Hp → Prop} (q : tEvs G F W [] σ H Q') : tNil σ H Q' := by
  obtain ⟨C, rfl, r, e, q⟩ := q
  rw [evs_nil] at q
  exact q [] H e (Same.refl _) .nil
theorem rd_acons {e : Ex} {es : List Ex} {Q : List V → Hp → Prop} (q : tEvs G F W (e :: es) σ H Q) : tCons (tEv G F W e) (tEvs G F W es) σ H Q := by
  obtain ⟨C, rfl, r, ek, q⟩ := q
  rw [evs_cons] at q
  refine ⟨C, rfl, r, ek, ?_⟩
  cases h1 : ev F e r with
  | bad => rw [h1] at q; exact q.elim
  | exc c r1 => rw [h1] at q; exact q
  | ok va r1 =>
    rw [h1, R.bind_ok] at q
    intro x H1 e1 g1 v1
    refine ⟨C, rfl, r1, e1, ?_⟩
    cases h2 : evs F es r1 with
    | bad => rw [h2] at q; exact q.elim
    | exc c r2 => rw [h2] at q; exact q
    | ok vs r2 =>
      rw [h2, R.bind_ok] at q
      intro xs H2 e2 g2 v2
      exact q (x :: xs) H2 e2 (g1.trans g2) (.cons (v1.grow g2) v2)
end
end Ap

end
section
/-! Calls of defs. -/
namespace Ap
open PySem PySem.Spec PyProof.Rows L2

structure ArgsOk (K : PySem.W.Frag) (fa : Nat → Addr) (os : Addr → Prop) (H : Hp) (as : List Slot) (xs : List V) : Prop where
  len : as.length = xs.length
  slot : ∀ (i : Nat) (s : Slot), as[i]? = some s → ∃ v, xs[i]? = some v ∧ SlotOk K fa (msk H os) H s v
  noown : ∀ (i : Nat) (o : MO), as[i]? ≠ some (.own o)
  bor : ∀ (i : Nat) (o : MO) (a b : Addr), as[i]? = some (.bor o) → xs[i]? = some (.ref a) → Own o.kd H a b → os b
  inj : ∀ (i j : Nat) (o p : MO) (a a' b : Addr), as[i]? = some (.bor o) → as[j]? = some (.bor p) → xs[i]? = some (.ref a) → xs[j]? = some (.ref a') → Own o.kd H a b → Own p.kd H a' b → i = j
  live : ∀ a, os a → ∃ o, H a = some o
structure CPost (rc : Addr) (os : Addr → Prop) (H : Hp) (as : List Slot) (xs : List V) (outs : List Slot) (H' : Hp) : Prop where
  keep : ∀ (b : Addr) (o : HO), H b = some o → (∀ (i : Nat) (m : MO) (a : Addr), as[i]? = some (.bor m) → xs[i]? = some (.ref a) → ¬ Own m.kd H a b) → H' b = some o
  bor : ∀ (i : Nat) (m : MO) (a : Addr), as[i]? = some (.bor m) → xs[i]? = some (.ref a) → ∃ m', outs[i]? = some (.bor m') ∧ MoOk rc (msk H' os) H' a m' ∧ m'.kd = m.kd ∧ ∀ b, Own m.kd H' a b ↔ Own m.kd H a b
/-- a def's promise -/
def spOf (K : PySem.W.Frag) (fa ca : Nat → Addr) (f : FnS) : Sp := fun xs H Q E => ∃ (os : Addr → Prop) (as : List Slot), ArgsOk K fa os H as xs ∧ match f as with
  | .ret d outs => ∀ v H', CPost (fa 900) os H as xs outs H' → Rp (msk H' os) d v → Q v H'
  | .exc c outs => ∀ H', CPost (fa 900) os H as xs outs H' → E (.ref (ca c)) none H'
  | .bad => False

/-! ### writing back -/
theorem moOf_some {s : Option (Option Slot)} {m : MO} (h : moOf s = some m) : s = some (some (.own m)) ∨ s = some (some (.bor m)) := by
  unfold moOf at h
  split at h <;> first | (cases h; simp) | cases h
theorem moOf_mut {s : Option (Option Slot)} {m : MO} (h : moOf s = some m) : isMut s = true := by
  rcases moOf_some h with rfl | rfl <;> rfl
theorem moOf_kd {s : Option (Option Slot)} {m : MO} (h : moOf s = some m) : kdS s = m.kd := by
  rcases moOf_some h with rfl | rfl <;> rfl
theorem putMo_other {r : Env} {i j : Nat} {o : MO} (h : j ≠ i) : (putMo r i o)[j]? = r[j]? := by
  unfold putMo
  split <;> simp [List.getElem?_set, Ne.symm h]
theorem putMo_self {r : Env} {i : Nat} {o : MO} : (putMo r i o)[i]? = match r[i]? with
    | some (some (.own _)) => some (some (.own o))
    | some (some (.bor _)) => some (some (.bor o))
    | x => x := by
  cases h : r[i]? with
  | none => simp only [putMo, h]
  | some s =>
    have hl : i < r.length := (List.getElem?_eq_some_iff.mp h).1
    cases s with
    | none => simp only [putMo, h]
    | some s => cases s <;> simp only [putMo, h, List.getElem?_set_self hl]
theorem putMo_mut {r : Env} {i j : Nat} {o : MO} : isMut (putMo r i o)[j]? = isMut r[j]? := by
  by_cases h : j = i
  · subst h
    rw [putMo_self]
    split <;> simp_all [isMut]
  · rw [putMo_other h]
theorem putMo_bor {r : Env} {i j : Nat} {o : MO} : isBor (putMo r i o)[j]? = isBor r[j]? := by
  by_cases h : j = i
  · subst h
    rw [putMo_self]
    split <;> simp_all [isBor]
  · rw [putMo_other h]
theorem putMo_len {r : Env} {i : Nat} {o : MO} : (putMo r i o).length = r.length := by
  unfold putMo
  split <;> simp
theorem putMo_twice {r : Env} {i k : Nat} {o m : MO} (h : i ≠ k) : (putMo (putMo r k o) i m)[i]? = (putMo r i m)[i]? := by
  rw [putMo_self, putMo_self, putMo_other h]
theorem mem_ownIx {i : Nat} : ∀ {vs : List Vl}, i ∈ ownIx vs ↔ ∃ j : Nat, vs[j]? = some (Vl.own i)
  | [] => by simp [ownIx]
  | v :: vs => by
    have ih := mem_ownIx (i := i) (vs := vs)
    cases v with
    | own k =>
      simp only [ownIx, List.mem_cons, ih]
      constructor
      · rintro (rfl | ⟨j, h⟩)
        · exact ⟨0, rfl⟩
        · exact ⟨j + 1, by simpa using h⟩
      · rintro ⟨j, h⟩
        cases j with
        | zero => simp at h; exact .inl h.symm
        | succ j => exact .inr ⟨j, by simpa using h⟩
    | _ =>
      simp only [ownIx, ih]
      constructor
      · rintro ⟨j, h⟩
        exact ⟨j + 1, by simpa using h⟩
      · rintro ⟨j, h⟩
        cases j with
        | zero => simp at h
        | succ j => exact ⟨j, by simpa using h⟩
theorem wb_len : ∀ {vs : List Vl} {ss : List Slot} {r : Env}, (writeBack r vs ss).length = r.length
  | [], _, _ => by simp [writeBack]
  | v :: vs, [], _ => by cases v <;> simp [writeBack]
  | v :: vs, s :: ss, r => by
    cases v <;> cases s <;> simp [writeBack, wb_len, putMo_len]
theorem wb_mut {j : Nat} : ∀ {vs : List Vl} {ss : List Slot} {r : Env}, isMut (writeBack r vs ss)[j]? = isMut r[j]?
  | [], _, _ => by simp [writeBack]
  | v :: vs, [], _ => by cases v <;> simp [writeBack]
  | v :: vs, s :: ss, r => by
    cases v <;> cases s <;> simp [writeBack, wb_mut, putMo_mut]
theorem wb_bor {j : Nat} : ∀ {vs : List Vl} {ss : List Slot} {r : Env}, isBor (writeBack r vs ss)[j]? = isBor r[j]?
  | [], _, _ => by simp [writeBack]
  | v :: vs, [], _ => by cases v <;> simp [writeBack]
  | v :: vs, s :: ss, r => by
    cases v <;> cases s <;> simp [writeBack, wb_bor, putMo_bor]
theorem wb_other {i : Nat} : ∀ {vs : List Vl} {ss : List Slot} {r : Env}, i ∉ ownIx vs → (writeBack r vs ss)[i]? = r[i]?
  | [], _, _, _ => by simp [writeBack]
  | v :: vs, [], _, _ => by cases v <;> simp [writeBack]
  | v :: vs, s :: ss, r, h => by
    cases v with
    | own k =>
      simp only [ownIx, List.mem_cons, not_or] at h
      cases s with
      | bor o =>
        show (writeBack (putMo r k o) vs ss)[i]? = r[i]?
        rw [wb_other h.2, putMo_other h.1]
      | _ => exact wb_other (vs := vs) h.2
    | dat d => exact wb_other (vs := vs) h
    | fn d => exact wb_other (vs := vs) h
    | scr d => exact wb_other (vs := vs) h
theorem wb_at {i : Nat} {m : MO} : ∀ {vs : List Vl} {ss : List Slot} {r : Env} {j : Nat}, (ownIx vs).Nodup → vs[j]? = some (.own i) → ss[j]? = some (.bor m) → (writeBack r vs ss)[i]? = (putMo r i m)[i]?
  | [], _, _, _, _, h, _ => by simp at h
  | v :: vs, [], _, _, _, _, h => by simp at h
  | v :: vs, s :: ss, r, 0, nd, h1, h2 => by
    simp at h1 h2
    subst h1 h2
    show (writeBack (putMo r i m) vs ss)[i]? = _
    simp only [ownIx, List.nodup_cons] at nd
    exact wb_other nd.1
  | v :: vs, s :: ss, r, j + 1, nd, h1, h2 => by
    have h1 : vs[j]? = some (.own i) := by simpa using h1
    have h2 : ss[j]? = some (.bor m) := by simpa using h2
    cases v with
    | own k =>
      simp only [ownIx, List.nodup_cons] at nd
      have hik : i ≠ k := fun e => nd.1 (e ▸ mem_ownIx.mpr ⟨j, h1⟩)
      cases s with
      | bor o =>
        show (writeBack (putMo r k o) vs ss)[i]? = _
        rw [wb_at nd.2 h1 h2, putMo_twice hik]
      | _ => exact wb_at (vs := vs) nd.2 h1 h2
    | dat d => exact wb_at (vs := vs) nd h1 h2
    | fn d => exact wb_at (vs := vs) nd h1 h2
    | scr d => exact wb_at (vs := vs) nd h1 h2

section
variable {G : Gx} {C : Fx} {W : WX} {F : Nat → FnS} {r r1 r2 : Env} {σ : St} {H H1 : Hp} {Q : VK}
theorem argsOf_get : ∀ {vs : List Vl} {as : List Slot} {j : Nat} {s : Slot}, argsOf r vs = some as → as[j]? = some s → ∃ v, vs[j]? = some v ∧ argOf r v = some s
  | [], _, _, _, h, e => by cases h; simp at e
  | v :: vs, as, j, s, h, e => by
    obtain ⟨s0, h1, h2⟩ := Option.bind_eq_some_iff.mp (show ((argOf r v).bind fun s => (argsOf r vs).map (s :: ·)) = some as from h)
    obtain ⟨as', h3, rfl⟩ := Option.map_eq_some_iff.mp h2
    cases j with
    | zero => simp at e; subst e; exact ⟨v, rfl, h1⟩
    | succ j =>
      obtain ⟨v', h4, h5⟩ := argsOf_get (j := j) h3 (by simpa using e)
      exact ⟨v', by simpa using h4, h5⟩
theorem argsOf_len : ∀ {vs : List Vl} {as : List Slot}, argsOf r vs = some as → as.length = vs.length
  | [], _, h => by cases h; rfl
  | v :: vs, as, h => by
    obtain ⟨s0, h1, h2⟩ := Option.bind_eq_some_iff.mp (show ((argOf r v).bind fun s => (argsOf r vs).map (s :: ·)) = some as from h)
    obtain ⟨as', h3, rfl⟩ := Option.map_eq_some_iff.mp h2
    simp [argsOf_len h3]
theorem argOf_bor {v : Vl} {m : MO} (h : argOf r v = some (.bor m)) : ∃ i, v = .own i ∧ moOf r[i]? = some m := by
  cases v with
  | own i =>
    obtain ⟨m', h1, h2⟩ := Option.map_eq_some_iff.mp (show (moOf r[i]?).map Slot.bor = some (.bor m) from h)
    cases h2
    exact ⟨i, rfl, h1⟩
  | _ => cases h
theorem paired_get {α β : Type} {R : α → β → Prop} : ∀ {l : List α} {l' : List β} {i : Nat} {a : α}, Paired R l l' → l[i]? = some a → ∃ b, l'[i]? = some b ∧ R a b
  | _, _, _, _, .nil, e => by simp at e
  | _, _, 0, _, .cons h _, e => by simp at e; subst e; exact ⟨_, rfl, h⟩
  | _, _, i + 1, _, .cons _ t, e => by
    obtain ⟨b, h1, h2⟩ := paired_get (i := i) t (by simpa using e)
    exact ⟨b, by simpa using h1, h2⟩
theorem nodup_place {i : Nat} : ∀ {vs : List Vl} {j k : Nat}, (ownIx vs).Nodup → vs[j]? = some (.own i) → vs[k]? = some (.own i) → j = k
  | [], _, _, _, h, _ => by simp at h
  | v :: vs, 0, 0, _, _, _ => rfl
  | v :: vs, 0, k + 1, nd, h1, h2 => by
    simp at h1 h2
    subst h1
    simp only [ownIx, List.nodup_cons] at nd
    exact absurd (mem_ownIx.mpr ⟨k, h2⟩) nd.1
  | v :: vs, j + 1, 0, nd, h1, h2 => by
    simp at h1 h2
    subst h2
    simp only [ownIx, List.nodup_cons] at nd
    exact absurd (mem_ownIx.mpr ⟨j, h1⟩) nd.1
  | v :: vs, j + 1, k + 1, nd, h1, h2 => by
    simp at h1 h2
    have nd' : (ownIx vs).Nodup := by
      cases v with
      | own k => simp only [ownIx, List.nodup_cons] at nd; exact nd.2
      | _ => exact nd
    rw [nodup_place nd' h1 h2]
theorem arg_key {vs : List Vl} {as : List Slot} {xs : List V} (v : VlsOk C r σ H vs xs) (h : argsOf r vs = some as) (i : Nat) (m : MO) (a b : Addr) (h1 : as[i]? = some (.bor m)) (h2 : xs[i]? = some (.ref a)) (w : Own m.kd H a b) : ∃ k, vs[i]? = some (.own k) ∧ moOf r[k]? = some m ∧ MutAt H r σ k b := by
  obtain ⟨w', h3, h4⟩ := argsOf_get h h1
  obtain ⟨k, rfl, h5⟩ := argOf_bor h4
  obtain ⟨x, h6, h7⟩ := paired_get v h3
  rw [h2] at h6
  cases h6
  exact ⟨k, h3, h5, moOf_mut h5, a, h7, by rw [moOf_kd h5]; exact w⟩
/-- the arguments of a call -/
theorem args_ok {vs : List Vl} {as : List Slot} {xs : List V} (e : EOk C r σ H) (v : VlsOk C r σ H vs xs) (h : argsOf r vs = some as) (nd : (ownIx vs).Nodup) : ArgsOk C.K C.fa (Msk H C.os r σ) H as xs := by
  have key := arg_key (C := C) v h
  refine ⟨by rw [argsOf_len h, Paired.length v], fun i s q => ?_, fun i o q => ?_, fun i o a b q1 q2 w => ?_, fun i j o p a a' b q1 q2 q3 q4 w w' => ?_, fun a q => e.live' q⟩
  · obtain ⟨w, h3, h4⟩ := argsOf_get h q
    obtain ⟨x, h6, h7⟩ := paired_get v h3
    refine ⟨x, h6, ?_⟩
    cases w with
    | dat d => cases h4; exact h7
    | fn k => cases h4; exact h7
    | scr ns => cases h4; exact h7
    | own k =>
      obtain ⟨m, h8, h9⟩ := Option.map_eq_some_iff.mp (show (moOf r[k]?).map Slot.bor = some s from h4)
      subst h9
      have h7 : σ[k]? = some (some x) := h7
      rcases moOf_some h8 with z | z
      · obtain ⟨y, e1, ok⟩ := e.slot k _ z
        rw [h7] at e1
        cases e1
        exact ok
      · obtain ⟨y, e1, ok⟩ := e.slot k _ z
        rw [h7] at e1
        cases e1
        exact ok
  · obtain ⟨w, h3, h4⟩ := argsOf_get h q
    cases w with
    | own k =>
      obtain ⟨m, h8, h9⟩ := Option.map_eq_some_iff.mp (show (moOf r[k]?).map Slot.bor = some (.own o) from h4)
      cases h9
    | _ => cases h4
  · obtain ⟨k, _, _, h⟩ := key i o a b q1 q2 w
    exact .inr ⟨k, h⟩
  · obtain ⟨k, z1, _, h1⟩ := key i o a b q1 q3 w
    obtain ⟨k', z2, _, h2⟩ := key j p a' b q2 q4 w'
    have := e.inj k k' b h1 h2
    subst this
    exact nodup_place nd z1 z2
/-- behind a call -/
theorem call_after {vs : List Vl} {as outs : List Slot} {xs : List V} {H' : Hp} (e : EOk C r σ H) (v : VlsOk C r σ H vs xs) (h : argsOf r vs = some as) (nd : (ownIx vs).Nodup) (p : CPost (C.fa 900) (Msk H C.os r σ) H as xs outs H') :
    EOk C (writeBack r vs outs) σ H' ∧ Grow C r (writeBack r vs outs) σ H H' ∧ ∀ d x, Rp (msk H' (Msk H C.os r σ)) d x → Rp (fz C (writeBack r vs outs) σ H') d x := by
  have key := arg_key (C := C) v h
  -- a slot that is passed
  have passed : ∀ (j k : Nat), vs[j]? = some (.own k) → ∃ m a, as[j]? = some (.bor m) ∧ xs[j]? = some (.ref a) ∧ moOf r[k]? = some m ∧ σ[k]? = some (some (.ref a)) := by
    intro j k hj
    have hl : j < as.length := by
      rw [argsOf_len h]
      exact (List.getElem?_eq_some_iff.mp hj).1
    obtain ⟨w, h3, h4⟩ := argsOf_get h (List.getElem?_eq_getElem hl)
    rw [hj] at h3
    cases h3
    obtain ⟨m, h8, h9⟩ := Option.map_eq_some_iff.mp (show (moOf r[k]?).map Slot.bor = some as[j] from h4)
    obtain ⟨x, h6, h7⟩ := paired_get v hj
    have h7 : σ[k]? = some (some x) := h7
    have : ∃ a, x = .ref a := by
      rcases moOf_some h8 with z | z
      · obtain ⟨y, e1, a, ok, _⟩ := e.slot k _ z
        rw [h7] at e1
        cases e1
        exact ⟨a, ok⟩
      · obtain ⟨y, e1, a, ok, _⟩ := e.slot k _ z
        rw [h7] at e1
        cases e1
        exact ⟨a, ok⟩
    obtain ⟨a, rfl⟩ := this
    exact ⟨m, a, by rw [List.getElem?_eq_getElem hl, h9], h6, h8, h7⟩
  have kdw : ∀ i, kdS (writeBack r vs outs)[i]? = kdS r[i]? := fun i => by
    by_cases hi : i ∈ ownIx vs
    · obtain ⟨j, hj⟩ := mem_ownIx.mp hi
      obtain ⟨m, x, h1, h2, h3, h4⟩ := passed j i hj
      obtain ⟨m', h5, h6, h6k, h7⟩ := p.bor j m x h1 h2
      rw [wb_at nd hj h5, putMo_self]
      rcases moOf_some h3 with z | z <;> rw [z] <;> exact h6k
    · rw [wb_other hi]
  have mu : ∀ i a, MutAt H' (writeBack r vs outs) σ i a ↔ MutAt H r σ i a := fun i a => by
    have e0 : MutAt H' (writeBack r vs outs) σ i a ↔ MutAt H' r σ i a := by unfold MutAt; rw [wb_mut, kdw]
    rw [e0]
    by_cases hi : i ∈ ownIx vs
    · obtain ⟨j, hj⟩ := mem_ownIx.mp hi
      obtain ⟨m, x, h1, h2, h3, h4⟩ := passed j i hj
      obtain ⟨m', h5, h6, h6k, h7⟩ := p.bor j m x h1 h2
      rw [mut_own (moOf_mut h3) h4, mut_own (moOf_mut h3) h4, moOf_kd h3]
      exact h7 a
    · by_cases hm : isMut r[i]? = true
      · refine e.mutAt (fun x o h1 h2 => p.keep x o h2 fun j m y q1 q2 w => ?_) a
        obtain ⟨k, h5, h6, h7⟩ := key j m y x q1 q2 w
        have := e.inj i k x (.of hm h1) h7
        subst this
        exact hi (mem_ownIx.mpr ⟨j, h5⟩)
      · exact ⟨fun z => absurd z.1 hm, fun z => absurd z.1 hm⟩
  have mk : ∀ a, Msk H' C.os (writeBack r vs outs) σ a ↔ Msk H C.os r σ a := fun a => by unfold Msk; simp only [mu]
  have keep : ∀ a o, ¬ Msk H C.os r σ a → H a = some o → H' a = some o := fun a o n q => p.keep a o q fun i m x h1 h2 w => by
    obtain ⟨k, _, _, h3⟩ := key i m x a h1 h2 w
    exact n (.inr ⟨k, h3⟩)
  have grow : Grow C r (writeBack r vs outs) σ H H' := fun a o q => by
    obtain ⟨h1, h2⟩ := msk_some.mp q
    exact msk_some.mpr ⟨fun z => h1 ((mk a).mp z), keep a o h1 h2⟩
  have res : ∀ d x, Rp (msk H' (Msk H C.os r σ)) d x → Rp (fz C (writeBack r vs outs) σ H') d x := fun d x q => q.mono (msk_le fun a z => (mk a).mp z)
  refine ⟨⟨by rw [wb_len]; exact e.len, fun i s q => ?_, fun i j a h1 h2 => e.inj i j a ((mu i a).mp h1) ((mu j a).mp h2), fun a q => ?_, fun a o q n => ?_, fun i o a q1 q2 => ?_, fun i o a q1 q2 => ?_, fun b hb => ?_⟩, grow, res⟩
  · by_cases hi : i ∈ ownIx vs
    · obtain ⟨j, hj⟩ := mem_ownIx.mp hi
      obtain ⟨m, a, h1, h2, h3, h4⟩ := passed j i hj
      obtain ⟨m', h5, h6, h6k, h7⟩ := p.bor j m a h1 h2
      rw [wb_at nd hj h5, putMo_self] at q
      have mo' : MoOk (C.fa 900) (fz C (writeBack r vs outs) σ H') H' a m' := by
        exact h6.mono (msk_le fun a z => (mk a).mp z) fun b x _ z => z
      refine ⟨.ref a, h4, ?_⟩
      rcases moOf_some h3 with z | z
      · rw [z] at q
        cases q
        exact ⟨a, rfl, mo'⟩
      · rw [z] at q
        cases q
        exact ⟨a, rfl, mo'⟩
    · rw [wb_other hi] at q
      obtain ⟨w, h1, h2⟩ := e.slot i s q
      refine ⟨w, h1, h2.mono grow fun a b o ha hs ow q2 => p.keep b o q2 fun j m y h3 h4 w' => ?_⟩
      subst ha
      obtain ⟨k, h5, h6, h7⟩ := key j m y b h3 h4 w'
      have hm : MutAt H r σ i b := ⟨by obtain ⟨m2, z | z⟩ := hs <;> (subst z; rw [q]; rfl), a, h1, by rw [q]; exact ow⟩
      have := e.inj i k b hm h7
      subst this
      exact hi (mem_ownIx.mpr ⟨j, h5⟩)
  · obtain ⟨o, ho⟩ := e.live a q
    by_cases hp : ∃ (i : Nat) (m : MO) (x : Addr), as[i]? = some (.bor m) ∧ xs[i]? = some (.ref x) ∧ Own m.kd H x a
    · obtain ⟨i, m, x, h1, h2, w⟩ := hp
      obtain ⟨m', _, h6, h6k, h7⟩ := p.bor i m x h1 h2
      exact h6.own (by rw [h6k]; exact (h7 a).mpr w)
    · exact ⟨o, p.keep a o ho fun i m x h1 h2 w => hp ⟨i, m, x, h1, h2, w⟩⟩
  · refine p.keep a o (e.base a o q n) fun i m x h1 h2 w => ?_
    obtain ⟨k, h5, h6, h7⟩ := key i m x a h1 h2 w
    rcases moOf_some h6 with z | z
    · rw [(e.new k m a z h7).1] at q
      cases q
    · obtain ⟨q0, hq0, hw⟩ := e.borOwn z h7
      exact n q0 hq0 hw
  · have hm : isMut r[i]? = true := by rw [← wb_mut (vs := vs) (ss := outs), q1]; rfl
    have hb : isBor r[i]? = false := by rw [← wb_bor (vs := vs) (ss := outs), q1]; rfl
    cases z : r[i]? with
    | none => rw [z] at hm; cases hm
    | some s =>
      cases s with
      | none => rw [z] at hm; cases hm
      | some s =>
        rw [z] at hm hb
        cases s with
        | own o' => exact e.new i o' a z ((mu i a).mp q2)
        | bor o' => cases hb
        | _ => cases hm
  · have hb : isBor r[i]? = true := by rw [← wb_bor (vs := vs) (ss := outs), q1]; rfl
    cases z : r[i]? with
    | none => rw [z] at hb; cases hb
    | some s =>
      cases s with
      | none => rw [z] at hb; cases hb
      | some s =>
        rw [z] at hb
        cases s with
        | bor o' => exact e.bor i o' a z q2
        | _ => cases hb
  · obtain ⟨h1, h2, h3, h4⟩ := e.bors b hb
    rw [wb_bor, kdw]
    refine ⟨h1, h2, h3, fun c => ?_⟩
    have z := mu b.1 c
    rw [mut_own (bor_mut h1) h2, mut_own (r := writeBack r vs outs) (by rw [wb_mut]; exact bor_mut h1) h2, kdw, h3] at z
    exact z.trans (h4 c)
theorem rd_fn {k : Nat} {es : List Ex} (q : tEv G F W (.call k es) σ H Q) : tCallS (spOf G.K G.fa G.ca (F k)) (WE W) (tEvs G F W es) σ H Q := by
  obtain ⟨C, rfl, r, e, q⟩ := q
  rw [ev] at q
  refine ⟨C, rfl, r, e, ?_⟩
  cases h1 : evs F es r with
  | bad => rw [h1] at q; exact q.elim
  | exc c r1 => rw [h1] at q; exact q
  | ok vs r1 =>
    rw [h1, R.bind_ok] at q
    intro xs H1 e1 g1 v1
    unfold callR at q
    cases h2 : argsOf r1 vs with
    | none => rw [h2] at q; exact q.elim
    | some as =>
      rw [h2] at q
      simp only at q
      split at q
      · rename_i nd
        refine ⟨_, as, args_ok e1 v1 h2 nd, ?_⟩
        cases h3 : F k as with
        | bad => rw [h3] at q; exact q.elim
        | exc c outs =>
          rw [h3] at q
          exact fun H' p => q H' (call_after e1 v1 h2 nd p).1
        | ret d outs =>
          rw [h3] at q
          intro v H' p rp
          obtain ⟨e2, g2, k2⟩ := call_after e1 v1 h2 nd p
          exact q v H' e2 (g1.trans g2) (k2 d v rp)
      · exact q.elim
end
end Ap

end
section
/-! What is walked. -/
namespace Ap
open PySem PySem.Spec PyProof.Rows L2

/-- J yields the items ds, which are frozen in F0 (or new) -/
def Feeds (F0 : Hp) (J : L2.It) (ds : List D) : Prop := ∀ H, Same F0 H →
  (∀ (i : Nat) (d : D), ds[i]? = some d → J.go i H ∧ ∀ x H', J.yld i H x H' → Same H H' ∧ ∀ M : Addr → Prop, (∀ a, M a → ∃ o, H a = some o) → Same F0 (msk H M) → Rp (msk H' M) d x) ∧ J.stop ds.length H
def PostI (C : Fx) (W : WX) (r : Env) (σ : St) (H : Hp) (R : L2.It → Hp → Prop) : Ap.R (List D) → Prop
  | .ok ds r' => ∀ J H', EOk C r' σ H' → Grow C r r' σ H H' → Feeds (fz C r' σ H') J ds → ds.length ≤ sizeLine → R J H'
  | .exc c r' => ∀ H', EOk C r' σ H' → W (.ref (C.ca c)) none σ H'
  | .bad => False
def tIt (G : Gx) (F : Nat → FnS) (W : WX) (e : Ap.It) : TI := fun σ H R => ∃ C : Fx, C.G = G ∧ ∃ r, EOk C r σ H ∧ PostI C W r σ H R (evIt F e r)

theorem PI.imp {X : Cx} {tg e : Expr} {t t' : TI} (h : PI X tg e t) (k : ∀ σ H Q, t' σ H Q → t σ H Q) : PI X tg e t' := ⟨fun pins s σ H Q I q => h.run pins s σ H Q I (k σ H Q q)⟩

/-! ### lists, tuples, texts -/
def iAny (K : PySem.W.Frag) (tl : TE) : TI := fun σ H R => tl σ H fun x H1 =>
  (∃ a xs, x = .ref a ∧ SqL K H1 a xs ∧ (xs.length ≤ sizeLine → R (Itl K a) H1)) ∨ (∃ a xs, x = .ref a ∧ SqT K H1 a xs ∧ (xs.length ≤ sizeLine → R (Itt K a) H1)) ∨ (∃ z, x = .str z ∧ R (Its z) H1)
theorem pi_any {X : Cx} {tg l : Expr} {tl : TE} (hl : PE X l tl) : PI X tg l (iAny X.K tl) := by
  refine ⟨fun pins s σ H R I h => ?_⟩
  refine thn (hl.run pins s σ H _ I h) fun v s1 ⟨x, H1, I1, r1, q1⟩ => ?_
  rcases q1 with ⟨a, xs, e, hq, q⟩ | ⟨a, xs, e, hq, q⟩ | ⟨z, e, q⟩
  · subst e
    cases r1
    obtain ⟨its, rv, p, hz⟩ := I1.list hq
    refine wpAny_pyIter_list p.isList ?_
    refine ⟨s1.heap.objs.size, [s1.heap.objs.size], _, _, H1, rfl, I1.kept (t' := s1.toks) fun b o e => Heap.get?_push_of_some _ e, turn_list a _, ⟨_, Heap.get?_push_size _ rfl, rfl, rfl⟩, fun b hb => ?_, q hz⟩
    have e : b = s1.heap.objs.size := by simpa using hb
    subst e
    exact I1.fpOk (Nat.le_refl _) (I1.hok.fresh (Nat.le_refl _))
  · subst e
    cases r1
    obtain ⟨its, rv, p, hz⟩ := I1.tuple hq
    refine wpAny_pyIter_tuple (show s1.heap.IsTuple a its.toArray from p) ?_
    refine ⟨s1.heap.objs.size, [s1.heap.objs.size], _, _, H1, rfl, I1.kept (t' := s1.toks) fun b o e => Heap.get?_push_of_some _ e, turn_tuple a _, ⟨_, Heap.get?_push_size _ rfl, rfl, rfl⟩, fun b hb => ?_, q hz⟩
    have e : b = s1.heap.objs.size := by simpa using hb
    subst e
    exact I1.fpOk (Nat.le_refl _) (I1.hok.fresh (Nat.le_refl _))
  · subst e
    obtain ⟨t, rfl⟩ := r1
    cases ha : z.cps.all (· < 128)
    · exact wpAny_pyIter_wide ha (pi_one (tk := s1.toks) I1 _ (turn_str _ z t "str_iterator" (.inr rfl)) ⟨_, Heap.get?_push_size _ rfl, rfl, rfl⟩ q)
    · exact wpAny_pyIter_ascii ha (pi_one (tk := s1.toks) I1 _ (turn_str _ z t "str_ascii_iterator" (.inl rfl)) ⟨_, Heap.get?_push_size _ rfl, rfl, rfl⟩ q)

section
variable {G : Gx} {C : Fx} {W : WX} {F : Nat → FnS} {r r1 r2 : Env} {σ : St} {H H1 : Hp}
theorem feeds_list {K : PySem.W.Frag} {F0 : Hp} {a : Addr} {vs : List V} {ds : List D} (h : F0 a = some (.lst vs)) (rp : Rps F0 ds vs) (inj : ∀ H, Same F0 H → ∀ xs, SqL K H a xs → xs = vs) : Feeds F0 (Itl K a) ds := by
  intro H s
  refine ⟨fun i d q => ?_, ⟨vs, .of (s _ _ h), by rw [rp.length]; exact Nat.le_refl _⟩⟩
  obtain ⟨v, h1, h2⟩ := rp.get q
  refine ⟨⟨vs, v, .of (s _ _ h), h1⟩, fun x H' y => ?_⟩
  obtain ⟨rfl, y⟩ := y
  have := y vs (.of (s _ _ h))
  rw [h1] at this
  cases this
  exact ⟨Same.refl _, fun M _ sm => h2.mono sm⟩
theorem feeds_list' {K : PySem.W.Frag} {F0 : Hp} {a : Addr} {vs : List V} {ds : List D} (h : F0 a = some (.lst vs)) (rp : Rps F0 ds vs) : Feeds F0 (Itl K a) ds := by
  intro H s
  refine ⟨fun i d q => ?_, ⟨vs, .of (s _ _ h), by rw [rp.length]; exact Nat.le_refl _⟩⟩
  obtain ⟨v, h1, h2⟩ := rp.get q
  refine ⟨⟨vs, v, .of (s _ _ h), h1⟩, fun x H' y => ?_⟩
  obtain ⟨rfl, y⟩ := y
  have := y vs (.of (s _ _ h))
  rw [h1] at this
  cases this
  exact ⟨Same.refl _, fun M _ sm => h2.mono sm⟩
theorem feeds_tup {K : PySem.W.Frag} {F0 : Hp} {a : Addr} {vs : List V} {ds : List D} (h : TupF F0 a vs) (rp : Rps F0 ds vs) : Feeds F0 (Itt K a) ds := by
  intro H s
  have hq : SqT K H a vs := (h.mono s).sq
  refine ⟨fun i d q => ?_, ⟨vs, hq, by rw [rp.length]; exact Nat.le_refl _⟩⟩
  obtain ⟨v, h1, h2⟩ := rp.get q
  refine ⟨⟨vs, v, hq, h1⟩, fun x H' y => ?_⟩
  obtain ⟨rfl, y⟩ := y
  have := y vs hq
  rw [h1] at this
  cases this
  exact ⟨Same.refl _, fun M _ sm => h2.mono sm⟩
theorem feeds_str {F0 : Hp} {z : Str} : Feeds F0 (Its z) (z.cps.toList.map fun c => .str ⟨#[c]⟩) := by
  intro H s
  refine ⟨fun i d q => ?_, by show z.cps.size ≤ _; simp⟩
  rw [List.getElem?_map] at q
  obtain ⟨c, h1, rfl⟩ := Option.map_eq_some_iff.mp q
  rw [Array.getElem?_toList] at h1
  refine ⟨(Array.getElem?_eq_some_iff.mp h1).1, fun x H' y => ?_⟩
  obtain ⟨rfl, c', h2, rfl⟩ := y
  rw [h1] at h2
  cases h2
  exact ⟨Same.refl _, fun M _ _ => .str _⟩
theorem rangeD_get : ∀ {n i : Nat} {lo : Int} {d : D}, (rangeD lo n)[i]? = some d → i < n ∧ d = .int (lo + i)
  | 0, _, _, _, h => by simp [rangeD] at h
  | n + 1, 0, lo, d, h => by simp [rangeD] at h; subst h; exact ⟨Nat.succ_pos _, by simp⟩
  | n + 1, i + 1, lo, d, h => by
    obtain ⟨h1, h2⟩ := rangeD_get (n := n) (i := i) (lo := lo + 1) (by simpa [rangeD] using h)
    refine ⟨Nat.succ_lt_succ h1, ?_⟩
    rw [h2]
    congr 1
    omega
theorem rangeD_len : ∀ {n : Nat} {lo : Int}, (rangeD lo n).length = n
  | 0, _ => rfl
  | n + 1, lo => by simp [rangeD, rangeD_len]
theorem feeds_rng {F0 : Hp} {lo : Int} {n : Nat} : Feeds F0 (Itr lo n) (rangeD lo n) := by
  intro H s
  refine ⟨fun i d q => ?_, by show n ≤ _; rw [rangeD_len]; exact Nat.le_refl _⟩
  obtain ⟨h1, rfl⟩ := rangeD_get q
  refine ⟨h1, fun x H' y => ?_⟩
  obtain ⟨rfl, rfl⟩ := y
  exact ⟨Same.refl _, fun M _ _ => .int _⟩

/-- an owned object is frozen -/
theorem EOk.freezeG {i : Nat} {o : MO} {d : D} {a : Addr} (e : EOk C r σ H) (h : r[i]? = some (some (.own o))) (h1 : σ[i]? = some (some (.ref a))) (k : ∀ F', Same (fz C r σ H) F' → (∀ b u, Own o.kd H a b → H b = some u → F' b = some u) → Rp F' d (.ref a)) :
    EOk C (r.set i (some (.dat d))) σ H ∧ Grow C r (r.set i (some (.dat d))) σ H H ∧ Rp (fz C (r.set i (some (.dat d))) σ H) d (.ref a) := by
  have hl : i < r.length := (List.getElem?_eq_some_iff.mp h).1
  have get : ∀ j : Nat, (r.set i (some (.dat d)))[j]? = if j = i then some (some (.dat d)) else r[j]? := fun j => by
    by_cases hj : j = i
    · subst hj; simp [hl]
    · simp [List.getElem?_set, Ne.symm hj, hj]
  have mu : ∀ j a, MutAt H (r.set i (some (.dat d))) σ j a → MutAt H r σ j a ∧ j ≠ i := fun j a ⟨h1, h2⟩ => by
    rw [get] at h1 h2
    by_cases hj : j = i
    · rw [if_pos hj] at h1; cases h1
    · rw [if_neg hj] at h1 h2; exact ⟨⟨h1, h2⟩, hj⟩
  have mk : ∀ a, Msk H C.os (r.set i (some (.dat d))) σ a → Msk H C.os r σ a := fun a z => by
    rcases z with z | ⟨j, z⟩
    · exact .inl z
    · exact .inr ⟨j, (mu j a z).1⟩
  have g : Grow C r (r.set i (some (.dat d))) σ H H := msk_le mk
  have mi : ∀ b, Own o.kd H a b → MutAt H r σ i b := fun b w => ⟨by rw [h]; rfl, a, h1, by rw [h]; exact w⟩
  have rp : Rp (fz C (r.set i (some (.dat d))) σ H) d (.ref a) := k _ g fun b u w hu => by
    refine msk_some.mpr ⟨fun z => ?_, hu⟩
    rcases z with z | ⟨j, z⟩
    · exact (e.new i _ b h (mi b w)).2 z
    · obtain ⟨z1, z2⟩ := mu j b z
      exact z2 (e.inj j i b z1 (mi b w))
  refine ⟨⟨by rw [List.length_set]; exact e.len, fun j s q => ?_, fun j k b z1 z2 => e.inj j k b (mu j b z1).1 (mu k b z2).1, e.live, e.base, fun j o b q1 q2 => ?_, fun j o b q1 q2 => ?_, fun p hp => ?_⟩, g, rp⟩
  · rw [get] at q
    by_cases hj : j = i
    · subst hj
      rw [if_pos rfl] at q
      cases q
      exact ⟨_, h1, rp⟩
    · rw [if_neg hj] at q
      obtain ⟨w, z1, z2⟩ := e.slot j s q
      exact ⟨w, z1, z2.mono g fun _ _ _ _ _ _ z => z⟩
  · rw [get] at q1
    by_cases hj : j = i
    · rw [if_pos hj] at q1; cases q1
    · rw [if_neg hj] at q1; exact e.new j o b q1 (mu j b q2).1
  · rw [get] at q1
    by_cases hj : j = i
    · rw [if_pos hj] at q1; cases q1
    · rw [if_neg hj] at q1; exact e.bor j o b q1 q2
  · obtain ⟨z1, z2⟩ := e.bors p hp
    have hj : p.1 ≠ i := fun hj => by rw [hj, h] at z1; cases z1
    rw [get, if_neg hj]
    exact ⟨z1, z2⟩
theorem Lls.rps {F H F' : Hp} (g : Same F F') : ∀ {rows : List (List D)} {as : List Addr}, Lls F H rows as → (∀ b ∈ as, ∀ u, H b = some u → F' b = some u) → Rps F' (rows.map .list) (as.map V.ref)
  | _, _, .nil, _ => .nil
  | _, _, .cons h1 h2 t, k => .cons (.lst (k _ (List.mem_cons_self ..) _ h1) (h2.mono g)) (t.rps g fun b hb => k b (List.mem_cons_of_mem _ hb))
/-- .. by a value -/
theorem frz_ok {x : Vl} {v : V} {d : D} (e : EOk C r σ H) (h : VlOk C r σ H x v) (q : frz r x = .ok d r1) : EOk C r1 σ H ∧ Grow C r r1 σ H H ∧ Rp (fz C r1 σ H) d v := by
  cases x with
  | dat d' => cases q; exact ⟨e, Same.refl _, h⟩
  | own i =>
    unfold frz at q
    simp only at q
    split at q
    · rename_i ds hi
      cases q
      obtain ⟨w, z1, a, rfl, vs, z2, z3⟩ := e.slot i _ hi
      have h : σ[i]? = some (some v) := h
      rw [z1] at h
      cases h
      exact e.freezeG hi z1 fun F' g k => .lst (k a _ (.inl rfl) z2) (z3.mono g)
    · rename_i rows hi
      cases q
      obtain ⟨w, z1, a, rfl, as, z2, z3, z4, z5⟩ := e.slot i _ hi
      have h : σ[i]? = some (some v) := h
      rw [z1] at h
      cases h
      exact e.freezeG hi z1 fun F' g k => .lst (k a _ (.inl rfl) z2) (z5.rps g fun b hb u hu => k b u ((own_ll z2).mpr (.inr hb)) hu)
    · cases q
  | fn k => cases q
  | scr ns => cases q

theorem rd_seq {e : Ex} {R : L2.It → Hp → Prop} (q : tIt G F W (.seq e) σ H R) : iAny G.K (tEv G F W e) σ H R := by
  obtain ⟨C, rfl, r, ek, q⟩ := q
  rw [evIt] at q
  refine ⟨C, rfl, r, ek, ?_⟩
  cases h1 : ev F e r with
  | bad => rw [h1] at q; exact q.elim
  | exc c r1 => rw [h1] at q; exact q
  | ok x r1 =>
    rw [h1, Ap.R.bind_ok] at q
    intro v H1 e1 g1 v1
    cases h2 : frz r1 x with
    | bad => rw [h2] at q; exact q.elim
    | exc c r2 =>
      unfold frz at h2
      cases x with
      | own i => simp only at h2; split at h2 <;> cases h2
      | _ => cases h2
    | ok d r2 =>
      rw [h2, Ap.R.bind_ok] at q
      obtain ⟨e2, g2, rp⟩ := frz_ok e1 v1 h2
      cases d with
      | list ds =>
        cases rp with
        | lst z1 z2 => exact .inl ⟨_, _, rfl, .of (msk_same _ _ z1), fun hb => q _ H1 e2 (g1.trans g2) (feeds_list' z1 z2) (by rw [z2.length]; exact hb)⟩
      | tuple ds =>
        cases rp with
        | tup z1 z2 => exact .inr (.inl ⟨_, _, rfl, z1.at, fun hb => q _ H1 e2 (g1.trans g2) (feeds_tup z1 z2) (by rw [z2.length]; exact hb)⟩)
      | str z =>
        cases rp
        unfold itemsD at q
        simp only at q
        split at q
        · rename_i hl
          refine .inr (.inr ⟨z, rfl, q _ H1 e2 (g1.trans g2) feeds_str ?_⟩)
          rw [List.length_map, ← lim_eq]
          simpa [Str.length] using hl
        · exact q.elim
      | _ => exact q.elim
theorem inR_ok {i : Int} (h : inR i = true) : -(2 ^ 62) ≤ i ∧ i < 2 ^ 62 := by
  unfold inR at h
  simp only [Bool.and_eq_true, decide_eq_true_eq] at h
  omega
theorem rd_rng1 {e : Ex} {R : L2.It → Hp → Prop} (q : tIt G F W (.rng [e]) σ H R) : iRng1 (tEvs G F W [e]) σ H R := by
  obtain ⟨C, rfl, r, ek, q⟩ := q
  rw [evIt] at q
  refine ⟨C, rfl, r, ek, ?_⟩
  cases h1 : evs F [e] r with
  | bad => rw [h1] at q; exact q.elim
  | exc c r1 => rw [h1] at q; exact q
  | ok xs r1 =>
    rw [h1, Ap.R.bind_ok] at q
    intro vs H1 e1 g1 v1
    cases h2 : asDats r1 xs with
    | none => rw [h2] at q; exact q.elim
    | some ds =>
      rw [h2, Ap.R.of_some, Ap.R.bind_ok] at q
      have rp := v1.rps e1 h2
      have hlen : xs.length = 1 := by
        rw [evs_cons] at h1
        cases h3 : ev F e r with
        | bad => rw [h3] at h1; cases h1
        | exc c r1 => rw [h3] at h1; cases h1
        | ok x r2 =>
          rw [h3, Ap.R.bind_ok, evs_nil] at h1
          cases h1
          rfl
      have hl2 : ds.length = 1 := by rw [rp.length, ← Paired.length v1]; exact hlen
      match ds, hl2, rp, q with
      | [d], _, .cons z .nil, q =>
        cases d with
        | int j =>
          cases z
          unfold rngItems at q
          simp only at q
          split at q
          · rename_i hc
            simp only [Bool.and_eq_true, decide_eq_true_eq] at hc
            obtain ⟨b1, b2⟩ := inR_ok hc.1
            exact ⟨j, rfl, b1, b2, q _ H1 e1 g1 feeds_rng (by rw [rangeD_len, ← lim_eq]; exact hc.2)⟩
          · exact q.elim
        | _ => exact q.elim
theorem rd_rng2 {e e' : Ex} {R : L2.It → Hp → Prop} (q : tIt G F W (.rng [e, e']) σ H R) : iRng2 (tEvs G F W [e, e']) σ H R := by
  obtain ⟨C, rfl, r, ek, q⟩ := q
  rw [evIt] at q
  refine ⟨C, rfl, r, ek, ?_⟩
  cases h1 : evs F [e, e'] r with
  | bad => rw [h1] at q; exact q.elim
  | exc c r1 => rw [h1] at q; exact q
  | ok xs r1 =>
    rw [h1, Ap.R.bind_ok] at q
    intro vs H1 e1 g1 v1
    cases h2 : asDats r1 xs with
    | none => rw [h2] at q; exact q.elim
    | some ds =>
      rw [h2, Ap.R.of_some, Ap.R.bind_ok] at q
      have rp := v1.rps e1 h2
      unfold rngItems at q
      split at q
      · -- one only: the length differs
        exfalso
        have hlen : xs.length = 2 := by
          rw [evs_cons] at h1
          cases h3 : ev F e r with
          | bad => rw [h3] at h1; cases h1
          | exc c r1 => rw [h3] at h1; cases h1
          | ok x r2 =>
            rw [h3, Ap.R.bind_ok, evs_cons] at h1
            cases h4 : ev F e' r2 with
            | bad => rw [h4] at h1; cases h1
            | exc c r1 => rw [h4] at h1; cases h1
            | ok x r3 =>
              rw [h4, Ap.R.bind_ok, evs_nil] at h1
              cases h1
              rfl
        have := rp.length
        have h5 := Paired.length v1
        simp at this
        omega
      · split at q
        · rename_i hc
          simp only [Bool.and_eq_true, decide_eq_true_eq] at hc
          obtain ⟨b1, b2⟩ := inR_ok hc.1.1
          obtain ⟨b3, b4⟩ := inR_ok hc.1.2
          cases rp with
          | cons z rp =>
            cases rp with
            | cons z' rp =>
              cases rp
              cases z
              cases z'
              exact ⟨_, _, rfl, ⟨b1, b2, b3, b4⟩, q _ H1 e1 g1 feeds_rng (by rw [rangeD_len, ← lim_eq]; exact hc.2)⟩
        · exact q.elim
      · exact q.elim
theorem downD_len : ∀ n : Nat, (downD n).length = n
  | 0 => rfl
  | n + 1 => by simp [downD, downD_len n]
theorem downD_get : ∀ {n i : Nat} {d : D}, (downD n)[i]? = some d → i < n ∧ d = .int ((n : Int) - 1 - i)
  | 0, _, _, h => by simp [downD] at h
  | n + 1, 0, d, h => by
    simp [downD] at h
    subst h
    exact ⟨Nat.succ_pos _, by congr 1; omega⟩
  | n + 1, i + 1, d, h => by
    obtain ⟨h1, h2⟩ := downD_get (n := n) (i := i) (by simpa [downD] using h)
    refine ⟨Nat.succ_lt_succ h1, ?_⟩
    rw [h2]
    congr 1
    omega
theorem feeds_dwn {F0 : Hp} {i : Int} (hi : -1 ≤ i) : Feeds F0 (Itc i (-1) (i + 1).toNat) (downD (i + 1).toNat) := by
  intro H s
  refine ⟨fun k d q => ?_, by show (i + 1).toNat ≤ _; rw [downD_len]; exact Nat.le_refl _⟩
  obtain ⟨h1, rfl⟩ := downD_get q
  refine ⟨h1, fun x H' y => ?_⟩
  obtain ⟨rfl, rfl⟩ := y
  refine ⟨Same.refl _, fun M _ _ => ?_⟩
  have : (((i + 1).toNat : Nat) : Int) - 1 - (k : Int) = i + (k : Nat) * (-1) := by omega
  rw [this]
  exact .int _
theorem rd_dwn {e : Ex} {R : L2.It → Hp → Prop} (q : tIt G F W (.dwn e) σ H R) : iRng3 (tCons (tEv G F W e) (tCons (tUn (rU fun i => .int (-i)) (tC (.int 1))) (tCons (tUn (rU fun i => .int (-i)) (tC (.int 1))) tNil))) σ H R := by
  obtain ⟨C, rfl, r, ek, q⟩ := q
  rw [evIt] at q
  refine ⟨C, rfl, r, ek, ?_⟩
  cases h1 : ev F e r with
  | bad => rw [h1] at q; exact q.elim
  | exc c r1 => rw [h1] at q; exact q
  | ok x r1 =>
    rw [h1, Ap.R.bind_ok] at q
    intro v H1 e1 g1 v1
    cases x with
    | dat d =>
      rw [show asDat (.dat d) r1 = .ok d r1 from rfl, Ap.R.bind_ok] at q
      cases d with
      | int i =>
        have v1 : Rp (fz C r1 σ H1) (.int i) v := v1
        cases v1
        by_cases hcc : (inR i && decide (-1 ≤ i) && decide ((i + 1).toNat ≤ lim)) = true
        · have hc := hcc
          simp only [Bool.and_eq_true, decide_eq_true_eq] at hc
          rw [show dwnItems (.int i) = some (downD (i + 1).toNat) from if_pos hcc, Ap.R.of_some] at q
          obtain ⟨b1, b2⟩ := inR_ok hc.1.1
          have hn : (i - (-1)).toNat = (i + 1).toNat := by congr 1
          refine ⟨1, rfl, 1, rfl, i, -1, -1, (i + 1).toNat, rfl, ?_, ?_⟩
          · rw [← hn]
            exact RgC.neg b1 b2 (by decide) (by decide)
          · exact q _ H1 e1 g1 (feeds_dwn hc.1.2) (by rw [downD_len, ← lim_eq]; exact hc.2)
        · rw [show dwnItems (.int i) = none from if_neg hcc, Ap.R.of_none] at q
          exact q.elim
      | _ => exact q.elim
    | _ => exact q.elim
end
end Ap

end
section
/-! Slots set; targets. -/
namespace Ap
open PySem PySem.Spec PyProof.Rows L2

section
variable {G : Gx} {C : Fx} {W : WX} {F : Nat → FnS} {r r1 r2 : Env} {σ : St} {H H1 : Hp}
theorem set_get {α : Type} {l : List α} {i j : Nat} {x : α} : (l.set i x)[j]? = if j = i ∧ i < l.length then some x else l[j]? := by
  by_cases hj : j = i
  · subst hj
    by_cases hl : j < l.length
    · simp [hl]
    · have e1 : l[j]? = none := List.getElem?_eq_none (by omega)
      have e2 : (l.set j x)[j]? = none := List.getElem?_eq_none (by simp; omega)
      simp [hl]
  · simp [List.getElem?_set, Ne.symm hj, hj]
/-- a slot is set to something that is not changeable -/
theorem EOk.put {i : Nat} {s : Slot} {v : V} (e : EOk C r σ H) (nb : isBor r[i]? = false) (nm : isMut (some (some s)) = false) (ok : SlotOk C.K C.fa (fz C r σ H) H s v) :
    EOk C (r.set i (some s)) (σ.set i (some v)) H ∧ Same (fz C r σ H) (fz C (r.set i (some s)) (σ.set i (some v)) H) := by
  have hlen := e.len
  have mu : ∀ j a, MutAt H (r.set i (some s)) (σ.set i (some v)) j a → MutAt H r σ j a ∧ ¬ (j = i ∧ i < r.length) := fun j a ⟨h1, x, h2, h3⟩ => by
    rw [set_get] at h1 h2 h3
    by_cases hj : j = i ∧ i < r.length
    · rw [if_pos hj] at h1
      rw [nm] at h1
      cases h1
    · rw [if_neg hj] at h1 h3
      rw [if_neg (by rw [← hlen]; exact hj)] at h2
      exact ⟨⟨h1, x, h2, h3⟩, hj⟩
  have mk : ∀ a, Msk H C.os (r.set i (some s)) (σ.set i (some v)) a → Msk H C.os r σ a := fun a z => by
    rcases z with z | ⟨j, z⟩
    · exact .inl z
    · exact .inr ⟨j, (mu j a z).1⟩
  have g : Same (fz C r σ H) (fz C (r.set i (some s)) (σ.set i (some v)) H) := msk_le mk
  refine ⟨⟨by simp [hlen], fun j t q => ?_, fun j k b z1 z2 => e.inj j k b (mu j b z1).1 (mu k b z2).1, e.live, e.base, fun j o b q1 q2 => ?_, fun j o b q1 q2 => ?_, fun p hp => ?_⟩, g⟩
  · rw [set_get] at q ⊢
    rw [← hlen]
    by_cases hj : j = i ∧ i < r.length
    · rw [if_pos hj] at q ⊢
      cases q
      exact ⟨v, rfl, ok.mono g fun _ _ _ _ _ _ z => z⟩
    · rw [if_neg hj] at q ⊢
      obtain ⟨w, z1, z2⟩ := e.slot j t q
      exact ⟨w, z1, z2.mono g fun _ _ _ _ _ _ z => z⟩
  · rw [set_get] at q1
    by_cases hj : j = i ∧ i < r.length
    · rw [if_pos hj] at q1
      cases q1
      cases nm
    · rw [if_neg hj] at q1
      exact e.new j o b q1 (mu j b q2).1
  · rw [set_get] at q1 q2
    by_cases hj : j = i ∧ i < r.length
    · rw [if_pos hj] at q1
      cases q1
      cases nm
    · rw [if_neg hj] at q1
      rw [if_neg (by rw [← hlen]; exact hj)] at q2
      exact e.bor j o b q1 q2
  · obtain ⟨z1, z2⟩ := e.bors p hp
    have hne : p.1 ≠ i := fun h => by rw [h, nb] at z1; cases z1
    rw [set_get, set_get, if_neg (fun h => hne h.1), if_neg (fun h => hne h.1)]
    exact ⟨z1, z2⟩
theorem setS_ok {i : Nat} {d : D} {v : V} (e : EOk C r σ H) (h : setS r i (.dat d) = some r1) (rp : Rp (fz C r σ H) d v) : EOk C r1 (σ.set i (some v)) H ∧ Same (fz C r σ H) (fz C r1 (σ.set i (some v)) H) := by
  unfold setS at h
  split at h
  · cases h
  · rename_i nb
    cases h
    exact e.put (by simpa using nb) rfl rp
def gsOf : List Nat → TGs
  | [] => gNil
  | i :: is => gCons (gName i) (gsOf is)
def gOf (K : PySem.W.Frag) : Tg → TG
  | .one i => gName i
  | .many is => gTup K is.length (gsOf is)
theorem setMany_ok : ∀ {is : List Nat} {ds : List D} {vs : List V} {r r1 : Env} {σ : St} {Q : St → Hp → Prop}, EOk C r σ H → setMany r is ds = some r1 → Rps (fz C r σ H) ds vs →
    (∀ σ', EOk C r1 σ' H → Same (fz C r σ H) (fz C r1 σ' H) → Q σ' H) → gsOf is vs σ H Q
  | [], [], _, r, r1, σ, Q, e, h, .nil, q => by
    cases h
    exact ⟨rfl, q σ e (Same.refl _)⟩
  | [], _ :: _, _, _, _, _, _, _, h, _, _ => by cases h
  | _ :: _, [], _, _, _, _, _, _, h, _, _ => by cases h
  | i :: is, d :: ds, _, r, r1, σ, Q, e, h, .cons (v := v) (vs := vs) rp rps, q => by
    obtain ⟨r', h1, h2⟩ := Option.bind_eq_some_iff.mp (show ((setS r i (.dat d)).bind fun r' => setMany r' is ds) = some r1 from h)
    obtain ⟨e', g⟩ := setS_ok e h1 rp
    refine ⟨v, vs, rfl, ?_⟩
    exact setMany_ok e' h2 (rps.mono g) fun σ' e2 g2 => q σ' e2 (g.trans g2)
theorem setMany_len : ∀ {is : List Nat} {ds : List D} {r r1 : Env}, setMany r is ds = some r1 → ds.length = is.length
  | [], [], _, _, _ => rfl
  | [], _ :: _, _, _, h => by cases h
  | _ :: _, [], _, _, h => by cases h
  | i :: is, d :: ds, r, r1, h => by
    obtain ⟨r', h1, h2⟩ := Option.bind_eq_some_iff.mp (show ((setS r i (.dat d)).bind fun r' => setMany r' is ds) = some r1 from h)
    simp [setMany_len h2]
theorem bind_ok {tg : Tg} {d : D} {v : V} {Q : St → Hp → Prop} (e : EOk C r σ H) (h : bindTg r tg d = some r1) (rp : Rp (fz C r σ H) d v)
    (q : ∀ σ', EOk C r1 σ' H → Same (fz C r σ H) (fz C r1 σ' H) → Q σ' H) : gOf C.K tg v σ H Q := by
  cases tg with
  | one i =>
    obtain ⟨e', g⟩ := setS_ok e (show setS r i (.dat d) = some r1 from h) rp
    exact q _ e' g
  | many is =>
    cases d with
    | tuple ds =>
      have h : setMany r is ds = some r1 := h
      cases rp with
      | tup z1 z2 => exact ⟨_, _, rfl, z1.at, by rw [← z2.length]; exact setMany_len h, setMany_ok e h z2 q⟩
    | _ => cases h
/-- the targets touch their own slots alone -/
def Tg.only (is : List Nat) (σ σ' : St) : Prop := σ'.length = σ.length ∧ ∀ j, j ∉ is → σ'[j]? = σ[j]?
theorem gs_only {all : List Nat} {Q : St → Hp → Prop} : ∀ {is : List Nat} {vs : List V} {σ σ0 : St} {H : Hp}, (∀ i ∈ is, i ∈ all) → Tg.only all σ0 σ → gsOf is vs σ H Q → gsOf is vs σ H (fun σ' H' => Tg.only all σ0 σ' ∧ Q σ' H')
  | [], _, σ, σ0, H, _, ho, ⟨e, q⟩ => ⟨e, ho, q⟩
  | i :: is, _, σ, σ0, H, hi, ho, ⟨v, vs, e, q⟩ => by
    refine ⟨v, vs, e, ?_⟩
    refine gs_only (is := is) (fun j hj => hi j (List.mem_cons_of_mem _ hj)) ⟨by rw [List.length_set]; exact ho.1, fun j hj => ?_⟩ q
    have hne : j ≠ i := fun z => hj (z ▸ hi i List.mem_cons_self)
    rw [set_get, if_neg (fun z => hne z.1)]
    exact ho.2 j hj
theorem g_only {K : PySem.W.Frag} {tg : Tg} {v : V} {Q : St → Hp → Prop} (q : gOf K tg v σ H Q) : gOf K tg v σ H (fun σ' H' => Tg.only tg.slots σ σ' ∧ Q σ' H') := by
  cases tg with
  | one i =>
    refine ⟨⟨List.length_set .., fun j hj => ?_⟩, q⟩
    rw [set_get, if_neg]
    intro z
    exact hj (by rw [z.1]; exact List.mem_cons_self)
  | many is =>
    obtain ⟨a, xs, e, h1, h2, h3⟩ := q
    exact ⟨a, xs, e, h1, h2, gs_only (is := is) (all := is) (fun i h => h) ⟨rfl, fun _ _ => rfl⟩ h3⟩
end
end Ap

end
section
/-! List comprehensions. -/
namespace Ap
open PySem PySem.Spec PyProof.Rows L2

theorem wipeE_get {r : Env} {j : Nat} : ∀ {is : List Nat}, (wipeE r is)[j]? = if j ∈ is ∧ j < r.length then some none else r[j]?
  | [] => by simp [wipeE]
  | i :: is => by
    have hl : ∀ is : List Nat, (wipeE r is).length = r.length := by
      intro is
      induction is with
      | nil => rfl
      | cons i is ih => simp [wipeE, ih]
    show ((wipeE r is).set i none)[j]? = _
    rw [set_get, hl, wipeE_get (is := is)]
    by_cases hj : j = i
    · subst hj
      by_cases h : j < r.length
      · simp [h]
      · simp [h]
    · simp [hj]
theorem wipeE_len {r : Env} : ∀ {is : List Nat}, (wipeE r is).length = r.length
  | [] => rfl
  | i :: is => by simp [wipeE, wipeE_len (is := is)]
theorem wipe_get {σ : St} {j : Nat} : ∀ {is : List Nat}, (wipe σ is)[j]? = if j ∈ is ∧ j < σ.length then some none else σ[j]?
  | [] => by simp [wipe]
  | i :: is => by
    show ((wipe σ is).set i none)[j]? = _
    rw [set_get, wipe_length, wipe_get (is := is)]
    by_cases hj : j = i
    · subst hj
      by_cases h : j < σ.length
      · simp [h]
      · simp [h]
    · simp [hj]
theorem backE_len {o r : Env} : ∀ {is : List Nat}, (backE o r is).length = r.length
  | [] => rfl
  | i :: is => by simp [backE, backE_len (is := is)]
theorem backE_get {o r : Env} {j : Nat} : ∀ {is : List Nat}, (backE o r is)[j]? = if j ∈ is ∧ j < r.length then some (o[j]?).join else r[j]?
  | [] => by simp [backE]
  | i :: is => by
    show ((backE o r is).set i (o[i]?).join)[j]? = _
    rw [set_get, backE_len, backE_get (is := is)]
    by_cases hj : j = i
    · subst hj
      by_cases h : j < r.length
      · simp [h]
      · simp [h]
    · simp [hj]

section
variable {G : Gx} {C : Fx} {W : WX} {F : Nat → FnS} {r r1 r2 : Env} {σ : St} {H H1 : Hp}
/-- slots forgotten -/
theorem EOk.wiped {is : List Nat} (e : EOk C r σ H) (nb : ∀ p ∈ C.bs, p.1 ∉ is) : EOk C (wipeE r is) (wipe σ is) H ∧ Same (fz C r σ H) (fz C (wipeE r is) (wipe σ is) H) := by
  have hlen := e.len
  have old : ∀ (j : Nat) (s : Slot), (wipeE r is)[j]? = some (some s) → r[j]? = some (some s) ∧ j ∉ is := fun j s q => by
    rw [wipeE_get] at q
    by_cases h : j ∈ is ∧ j < r.length
    · rw [if_pos h] at q; cases q
    · rw [if_neg h] at q
      refine ⟨q, fun z => h ⟨z, (List.getElem?_eq_some_iff.mp q).1⟩⟩
  have oldσ : ∀ (j : Nat), j ∉ is → (wipe σ is)[j]? = σ[j]? := fun j hj => by rw [wipe_get, if_neg (fun z => hj z.1)]
  have oldm : ∀ (j : Nat), isMut (wipeE r is)[j]? = true → isMut r[j]? = true ∧ j ∉ is := fun j q => by
    rw [wipeE_get] at q
    by_cases h : j ∈ is ∧ j < r.length
    · rw [if_pos h] at q; cases q
    · rw [if_neg h] at q
      refine ⟨q, fun z => h ⟨z, ?_⟩⟩
      cases hq : r[j]? with
      | none => rw [hq] at q; cases q
      | some x => exact (List.getElem?_eq_some_iff.mp hq).1
  have mu : ∀ j a, MutAt H (wipeE r is) (wipe σ is) j a → MutAt H r σ j a := fun j a ⟨h1, h2⟩ => by
    obtain ⟨z1, z2⟩ := oldm j h1
    rw [oldσ j z2, wipeE_get, if_neg (fun z => z2 z.1)] at h2
    exact ⟨z1, h2⟩
  have g : Same (fz C r σ H) (fz C (wipeE r is) (wipe σ is) H) := msk_le fun a z => by
    rcases z with z | ⟨j, z⟩
    · exact .inl z
    · exact .inr ⟨j, mu j a z⟩
  refine ⟨⟨by rw [wipeE_len, wipe_length]; exact hlen, fun j t q => ?_, fun j k b z1 z2 => e.inj j k b (mu j b z1) (mu k b z2), e.live, e.base, fun j o b q1 q2 => ?_, fun j o b q1 q2 => ?_, fun p hp => ?_⟩, g⟩
  · obtain ⟨z1, z2⟩ := old j t q
    obtain ⟨w, z3, z4⟩ := e.slot j t z1
    exact ⟨w, by rw [oldσ j z2]; exact z3, z4.mono g fun _ _ _ _ _ _ z => z⟩
  · obtain ⟨z1, z2⟩ := old j _ q1
    exact e.new j o b z1 (mu j b q2)
  · obtain ⟨z1, z2⟩ := old j _ q1
    rw [oldσ j z2] at q2
    exact e.bor j o b z1 q2
  · obtain ⟨z1, z2⟩ := e.bors p hp
    rw [wipeE_get, if_neg (fun z => nb p hp z.1), oldσ _ (nb p hp)]
    exact ⟨z1, z2⟩
/-- a new object put beside, locked -/
abbrev Fx.lockO (C : Fx) (D : Addr) (x : HO) : Fx := { G := C.G, os := fun a => C.os a ∨ a = D, H0 := upd C.H0 D x, bs := C.bs, bk := C.bk }
abbrev Fx.lock (C : Fx) (D : Addr) (vs : List V) : Fx := C.lockO D (.lst vs)
theorem EOk.nobs (e : EOk C r σ H) {D : Addr} (h : H D = none) : ∀ p ∈ C.bs, ¬ Own (C.bk p.1) C.H0 p.2 D := fun p hp z => by
  obtain ⟨z1, z2, z4, z3⟩ := e.bors p hp
  obtain ⟨o, ho⟩ := e.live' (.inr ⟨p.1, bor_mut z1, _, z2, by rw [z4]; exact (z3 D).mpr z⟩)
  rw [h] at ho
  cases ho
/-- what is borrowed is not touched by a new object -/
theorem own_lock {κ : Kd} {D x b : Addr} {y : HO} {H : Hp} (h : x ≠ D) : Own κ (upd H D y) x b ↔ Own κ H x b := Own.congr (upd_ne h) b
theorem lock_nobs {D : Addr} {x : HO} (h : ∀ p ∈ C.bs, ¬ Own (C.bk p.1) C.H0 p.2 D) : ∀ p ∈ C.bs, ¬ Own (C.bk p.1) (upd C.H0 D x) p.2 D := fun p hp w => h p hp ((own_lock (fun z => h p hp (.inl z.symm))).mp w)
theorem nobs_ne {D : Addr} (h : ∀ p ∈ C.bs, ¬ Own (C.bk p.1) C.H0 p.2 D) : ∀ p ∈ C.bs, p.2 ≠ D := fun p hp z => h p hp (.inl z.symm)
theorem EOk.h0 (e : EOk C r σ H) {D : Addr} (h : H D = none) : C.H0 D = none := by
  cases q : C.H0 D with
  | none => rfl
  | some o =>
    rw [e.base D o q (e.nobs h)] at h
    cases h
theorem lock_fz {D : Addr} {x y : HO} (e : EOk C r σ H) (h : H D = none) : Same (fz C r σ H) (fz (C.lockO D x) r σ (upd H D y)) := fun a o q => by
  obtain ⟨h1, h2⟩ := msk_some.mp q
  have hne : a ≠ D := fun z => by rw [z, h] at h2; cases h2
  refine msk_some.mpr ⟨fun z => ?_, by rw [upd_ne hne]; exact h2⟩
  rcases z with (z | z) | ⟨j, z⟩
  · exact h1 (.inl z)
  · exact hne z
  · exact h1 (.inr ⟨j, (e.mutU (e.notN h) j a).mp z⟩)
theorem EOk.lockedO (e : EOk C r σ H) {D : Addr} {x : HO} (h : H D = none) : EOk (C.lockO D x) r σ (upd H D x) := by
  have notD := e.notN h
  have mu := e.mutU (y := x) notD
  have g := lock_fz (x := x) (y := x) e h
  have nb := nobs_ne (e.nobs h)
  refine ⟨e.len, fun j t q => ?_, fun i j a z1 z2 => e.inj i j a ((mu i a).mp z1) ((mu j a).mp z2), fun a z => ?_, fun a o q n => ?_, fun j o b q1 q2 => ?_, e.bor, fun p hp => ?_⟩
  · obtain ⟨w, z1, z2⟩ := e.slot j t q
    refine ⟨w, z1, z2.mono g fun a b o e1 e2 _ z => ?_⟩
    rw [upd_ne]
    · exact z
    · exact fun zz => by rw [zz, h] at z; cases z
  · rcases z with z | z
    · obtain ⟨o, ho⟩ := e.live a z
      exact ⟨o, same_upd h _ _ ho⟩
    · exact ⟨_, by rw [z]; exact upd_same⟩
  · by_cases ha : a = D
    · subst ha
      have q : (upd C.H0 a x) a = some o := q
      rw [upd_same] at q ⊢
      exact q
    · have q : (upd C.H0 D x) a = some o := q
      rw [upd_ne ha] at q ⊢
      exact e.base a o q fun p hp w => n p hp ((own_lock (nb p hp)).mpr w)
  · have q2 := (mu j b).mp q2
    have hb := notD j b q2
    obtain ⟨z1, z2⟩ := e.new j o b q1 q2
    refine ⟨?_, ?_⟩
    · show (upd C.H0 D x) b = none
      rw [upd_ne hb]
      exact z1
    · rintro (z | z)
      · exact z2 z
      · exact hb z
  · obtain ⟨z1, z2, z4, z3⟩ := e.borsT mu p hp
    exact ⟨z1, z2, z4, fun b => (z3 b).trans (own_lock (nb p hp)).symm⟩
theorem EOk.locked (e : EOk C r σ H) {D : Addr} (h : H D = none) : EOk (C.lock D []) r σ (upd H D (.lst [])) := e.lockedO h
theorem EOk.lockNe {D : Addr} {x : HO} (e : EOk (C.lockO D x) r σ H) (hb : ∀ p ∈ C.bs, ¬ Own (C.bk p.1) C.H0 p.2 D) : ∀ j a, MutAt H r σ j a → a ≠ D := fun j a m => by
  obtain ⟨o, _, q | q, _, _⟩ := e.mobj m.1
  · exact fun z => (e.new j o a q m).2 (.inr z)
  · intro z
    obtain ⟨p, hp, w⟩ := e.borOwn q m
    subst z
    exact hb p hp ((own_lock (nobs_ne hb p hp)).mp w)
theorem EOk.relock {D : Addr} {x y : HO} (e : EOk (C.lockO D x) r σ H) (hb : ∀ p ∈ C.bs, ¬ Own (C.bk p.1) C.H0 p.2 D) : EOk (C.lockO D y) r σ (upd H D y) ∧ Same (fz (C.lockO D x) r σ H) (fz (C.lockO D y) r σ (upd H D y)) := by
  have h := e.lockNe hb
  have nb := nobs_ne hb
  have mu := e.mutU (y := y) h
  have g : Same (fz (C.lockO D x) r σ H) (fz (C.lockO D y) r σ (upd H D y)) := fun a o q => by
    obtain ⟨h1, h2⟩ := msk_some.mp q
    have hne : a ≠ D := fun z => h1 (.inl (.inr z))
    refine msk_some.mpr ⟨fun z => ?_, by rw [upd_ne hne]; exact h2⟩
    rcases z with z | ⟨j, z⟩
    · exact h1 (.inl z)
    · exact h1 (.inr ⟨j, (mu j a).mp z⟩)
  refine ⟨⟨e.len, fun j t q => ?_, fun i j a z1 z2 => e.inj i j a ((mu i a).mp z1) ((mu j a).mp z2), fun a z => ?_, fun a o q n => ?_, fun j o b q1 q2 => ?_, e.bor, fun p hp => ?_⟩, g⟩
  · obtain ⟨w, z1, z2⟩ := e.slot j t q
    refine ⟨w, z1, z2.mono g fun a b o e1 e2 ow z => ?_⟩
    have : MutAt H r σ j b := ⟨by obtain ⟨m, zz | zz⟩ := e2 <;> (subst zz; rw [q]; rfl), a, by rw [z1, e1], by rw [q]; exact ow⟩
    rw [upd_ne (h j b this)]
    exact z
  · by_cases ha : a = D
    · exact ⟨_, by rw [ha]; exact upd_same⟩
    · obtain ⟨o, ho⟩ := e.live a z
      exact ⟨o, by rw [upd_ne ha]; exact ho⟩
  · by_cases ha : a = D
    · subst ha
      have q : (upd C.H0 a y) a = some o := q
      rw [upd_same] at q ⊢
      exact q
    · have q : (upd C.H0 D y) a = some o := q
      rw [upd_ne ha] at q ⊢
      exact e.base a o (by show (upd C.H0 D x) a = some o; rw [upd_ne ha]; exact q) fun p hp w => n p hp ((own_lock (nb p hp)).mpr ((own_lock (nb p hp)).mp w))
  · obtain ⟨z1, z2⟩ := e.new j o b q1 ((mu j b).mp q2)
    have hb : b ≠ D := fun z => z2 (.inr z)
    refine ⟨?_, z2⟩
    have z1 : (upd C.H0 D x) b = none := z1
    show (upd C.H0 D y) b = none
    rw [upd_ne hb] at z1 ⊢
    exact z1
  · obtain ⟨z1, z2, z4, z3⟩ := e.borsT mu p hp
    exact ⟨z1, z2, z4, fun b => (z3 b).trans ((own_lock (nb p hp)).trans (own_lock (nb p hp)).symm)⟩
/-- back in the def: the block's own slots as they were; the list stays locked -/
theorem EOk.backL {D : Addr} {vs : List V} {p : Env} {is : List Nat} {H2 : Hp} (e1 : EOk C r1 σ H1) (hpl : plainAll r1 is = true) (e : EOk (C.lock D vs) (wipeE p is) (wipe σ is) H2)
    (s : Same (fz C r1 σ H1) (fz (C.lock D vs) (wipeE p is) (wipe σ is) H2)) :
    EOk (C.lock D vs) (backE r1 p is) σ H2 ∧ Same (fz (C.lock D vs) (wipeE p is) (wipe σ is) H2) (fz (C.lock D vs) (backE r1 p is) σ H2) := by
  have hl1 := e1.len
  have hl2 : p.length = σ.length := by
    have := e.len
    rw [wipeE_len, wipe_length] at this
    exact this
  have nm : ∀ j ∈ is, isMut r1[j]? = false := fun j hj => by
    have := List.all_eq_true.mp hpl j hj
    simpa using this
  have get : ∀ (j : Nat), (backE r1 p is)[j]? = if j ∈ is then r1[j]? else p[j]? := fun j => by
    rw [backE_get]
    by_cases hj : j ∈ is
    · by_cases h : j < p.length
      · rw [if_pos ⟨hj, h⟩, if_pos hj]
        have : j < r1.length := by omega
        rw [List.getElem?_eq_getElem this]
        rfl
      · rw [if_neg (fun z => h z.2), if_pos hj, List.getElem?_eq_none (by omega), List.getElem?_eq_none (by omega)]
    · rw [if_neg (fun z => hj z.1), if_neg hj]
  have getw : ∀ (j : Nat), j ∉ is → (wipeE p is)[j]? = p[j]? ∧ (wipe σ is)[j]? = σ[j]? := fun j hj => by
    rw [wipeE_get, wipe_get, if_neg (fun z => hj z.1), if_neg (fun z => hj z.1)]
    exact ⟨rfl, rfl⟩
  have mu : ∀ j a, MutAt H2 (backE r1 p is) σ j a → MutAt H2 (wipeE p is) (wipe σ is) j a := fun j a ⟨h1, h2⟩ => by
    rw [get] at h1 h2
    by_cases hj : j ∈ is
    · rw [if_pos hj, nm j hj] at h1; cases h1
    · rw [if_neg hj] at h1 h2
      obtain ⟨z1, z2⟩ := getw j hj
      exact ⟨by rw [z1]; exact h1, by rw [z1, z2]; exact h2⟩
  have g : Same (fz (C.lock D vs) (wipeE p is) (wipe σ is) H2) (fz (C.lock D vs) (backE r1 p is) σ H2) := msk_le fun a z => by
    rcases z with z | ⟨j, z⟩
    · exact .inl z
    · exact .inr ⟨j, mu j a z⟩
  refine ⟨⟨by rw [backE_len]; exact hl2, fun j t q => ?_, fun j k b z1 z2 => e.inj j k b (mu j b z1) (mu k b z2), e.live, e.base, fun j o b q1 q2 => ?_, fun j o b q1 q2 => ?_, fun pb hp => ?_⟩, g⟩
  · rw [get] at q
    by_cases hj : j ∈ is
    · rw [if_pos hj] at q
      obtain ⟨w, z1, z2⟩ := e1.slot j t q
      refine ⟨w, z1, z2.mono (s.trans g) fun a b o _ e2 _ _ => ?_⟩
      have := nm j hj
      rw [q] at this
      obtain ⟨m, zz | zz⟩ := e2 <;> (subst zz; cases this)
    · rw [if_neg hj] at q
      obtain ⟨y1, y2⟩ := getw j hj
      obtain ⟨w, z1, z2⟩ := e.slot j t (by rw [y1]; exact q)
      exact ⟨w, by rw [← y2]; exact z1, z2.mono g fun _ _ _ _ _ _ z => z⟩
  · rw [get] at q1
    by_cases hj : j ∈ is
    · rw [if_pos hj] at q1
      have := nm j hj
      rw [q1] at this
      cases this
    · rw [if_neg hj] at q1
      obtain ⟨y1, y2⟩ := getw j hj
      exact e.new j o b (by rw [y1]; exact q1) (mu j b q2)
  · rw [get] at q1
    by_cases hj : j ∈ is
    · rw [if_pos hj] at q1
      have := nm j hj
      rw [q1] at this
      cases this
    · rw [if_neg hj] at q1
      obtain ⟨y1, y2⟩ := getw j hj
      exact e.bor j o b (by rw [y1]; exact q1) (by rw [y2]; exact q2)
  · obtain ⟨z1, z2⟩ := e.bors pb hp
    have hj : pb.1 ∉ is := fun hj => by
      obtain ⟨w1, _⟩ := e1.bors pb hp
      have := nm pb.1 hj
      cases q : r1[pb.1]? with
      | none => rw [q] at w1; cases w1
      | some s =>
        cases s with
        | none => rw [q] at w1; cases w1
        | some s =>
          rw [q] at w1 this
          cases s with
          | bor o => cases this
          | _ => cases w1
    obtain ⟨y1, y2⟩ := getw pb.1 hj
    rw [get, if_neg hj, ← y1, ← y2]
    exact ⟨z1, z2⟩
/-- the locked list let go -/
theorem EOk.unlock {D : Addr} {x : HO} (e : EOk (C.lockO D x) r σ H) (h0 : C.H0 D = none) (hb : ∀ p ∈ C.bs, ¬ Own (C.bk p.1) C.H0 p.2 D) : EOk C r σ H ∧ Same (fz (C.lockO D x) r σ H) (fz C r σ H) := by
  have nb := nobs_ne hb
  have g : Same (fz (C.lockO D x) r σ H) (fz C r σ H) := msk_le fun a z => by
    rcases z with z | z
    · exact .inl (.inl z)
    · exact .inr z
  refine ⟨⟨e.len, fun j t q => ?_, e.inj, fun a z => e.live a (.inl z), fun a o q n => ?_, fun j o b q1 q2 => ?_, e.bor, fun p hp => ?_⟩, g⟩
  · obtain ⟨w, z1, z2⟩ := e.slot j t q
    exact ⟨w, z1, z2.mono g fun _ _ _ _ _ _ z => z⟩
  · have hne : a ≠ D := fun z => by rw [z, h0] at q; cases q
    exact e.base a o (by show (upd C.H0 D x) a = some o; rw [upd_ne hne]; exact q) fun p hp w => n p hp ((own_lock (nb p hp)).mp w)
  · obtain ⟨z1, z2⟩ := e.new j o b q1 q2
    have hb : b ≠ D := fun z => z2 (.inr z)
    have z1 : (upd C.H0 D x) b = none := z1
    rw [upd_ne hb] at z1
    exact ⟨z1, fun z => z2 (.inl z)⟩
  · obtain ⟨z1, z2, z4, z3⟩ := e.bors p hp
    exact ⟨z1, z2, z4, fun b => (z3 b).trans (own_lock (nb p hp))⟩
theorem gs_mono {Q Q' : St → Hp → Prop} (h : ∀ σ H, Q σ H → Q' σ H) : ∀ {is : List Nat} {vs : List V} {σ : St} {H : Hp}, gsOf is vs σ H Q → gsOf is vs σ H Q'
  | [], _, _, _, ⟨e, q⟩ => ⟨e, h _ _ q⟩
  | _ :: is, _, _, _, ⟨v, vs, e, q⟩ => ⟨v, vs, e, gs_mono h (is := is) q⟩
theorem g_mono {K : PySem.W.Frag} {tg : Tg} {v : V} {Q Q' : St → Hp → Prop} (h : ∀ σ H, Q σ H → Q' σ H) (q : gOf K tg v σ H Q) : gOf K tg v σ H Q' := by
  cases tg with
  | one i => exact h _ _ q
  | many is =>
    obtain ⟨a, xs, e, h1, h2, h3⟩ := q
    exact ⟨a, xs, e, h1, h2, gs_mono h h3⟩
theorem only_wipe {is : List Nat} {σ' : St} (h : Tg.only is (wipe σ is) σ') : wipe σ' is = wipe σ is := by
  have hl : σ'.length = σ.length := by rw [h.1, wipe_length]
  apply List.ext_getElem?
  intro j
  rw [wipe_get, wipe_get, hl]
  by_cases hj : j ∈ is
  · by_cases h2 : j < σ.length
    · rw [if_pos ⟨hj, h2⟩, if_pos ⟨hj, h2⟩]
    · rw [if_neg (fun z => h2 z.2), if_neg (fun z => h2 z.2), List.getElem?_eq_none (by omega), List.getElem?_eq_none (by omega)]
  · rw [if_neg (fun z => hj z.1), if_neg (fun z => hj z.1), h.2 j hj, wipe_get, if_neg (fun z => hj z.1)]
/-! ### the comprehension -/
def Wf : WX := fun _ _ _ _ => False
def tCond (G : Gx) (F : Nat → FnS) : List Ex → TT
  | [] => tYes
  | [c] => tEvT G F Wf c
  | _ => fun _ _ _ => False
def lcF (F : Nat → FnS) (elt : Ex) (tg : Tg) (cond : List Ex) (d : D) (q : Env) : Ap.R (Option D) :=
  (Ap.R.of (bindTg (wipeE q tg.slots) tg d) q).bind fun q1 _ => (evc F cond q1).bind fun x q2 =>
    if x then (ev F elt q2).bind fun v q3 => (asDat v q3).bind fun y _ => .ok (some y) q3 else .ok none q2
theorem lcF_ok {elt : Ex} {tg : Tg} {cond : List Ex} {d : D} {q q' : Env} {o : Option D} (h : lcF F elt tg cond d q = .ok o q') :
    ∃ q1 b q2, bindTg (wipeE q tg.slots) tg d = some q1 ∧ evc F cond q1 = .ok b q2 ∧ ((b = true ∧ ∃ y, ev F elt q2 = .ok (.dat y) q' ∧ o = some y) ∨ (b = false ∧ o = none ∧ q' = q2)) := by
  unfold lcF at h
  cases h1 : bindTg (wipeE q tg.slots) tg d with
  | none => rw [h1] at h; cases h
  | some q1 =>
    rw [h1, Ap.R.of_some, Ap.R.bind_ok] at h
    cases h2 : evc F cond q1 with
    | bad => rw [h2] at h; cases h
    | exc c r => rw [h2] at h; cases h
    | ok b q2 =>
      rw [h2, Ap.R.bind_ok] at h
      refine ⟨q1, b, q2, rfl, h2, ?_⟩
      cases b with
      | false => cases h; exact .inr ⟨rfl, rfl, rfl⟩
      | true =>
        rw [if_pos rfl] at h
        cases h3 : ev F elt q2 with
        | bad => rw [h3] at h; cases h
        | exc c r => rw [h3] at h; cases h
        | ok v q3 =>
          rw [h3, Ap.R.bind_ok] at h
          cases v with
          | dat y => cases h; exact .inl ⟨rfl, y, rfl, rfl⟩
          | _ => cases h
/-- the list of a comprehension, locked at the end -/
theorem lc_run {elt : Ex} {tg : Tg} {cond : List Ex} {ds ys : List D} {p' : Env} {J : L2.It} {D : Addr} {Q : VK} (e1 : EOk C r1 σ H1) (fd : Feeds (fz C r1 σ H1) J ds) (hb : ds.length ≤ sizeLine) (hD : H1 D = none) (hpl : plainAll r1 tg.slots = true)
    (hr : lcGo (lcF F elt tg cond) ds [] r1 = .ok ys p')
    (k : ∀ vs H2, EOk (C.lock D vs) (backE r1 p' tg.slots) σ H2 → H2 D = some (.lst vs) → Rps (fz (C.lock D vs) (backE r1 p' tg.slots) σ H2) ys vs → Same (fz C r1 σ H1) (fz (C.lock D vs) (backE r1 p' tg.slots) σ H2) → Q (.ref D) H2) :
    ∃ W : Nat → Nat → Hp → Prop, (∃ m, W 0 m (upd H1 D (.lst []))) ∧ ∀ i m H, W i m H →
      (J.stop i H ∧ Q (.ref D) H) ∨ (J.go i H ∧ ∃ Nx : Hp → Prop, (∀ H', Nx H' → ∃ m', m' < m ∧ W (i + 1) m' H') ∧ ∀ x H', J.yld i H x H' → gOf C.K tg x (wipe σ tg.slots) H' fun σ2 H2 => wipe σ2 tg.slots = wipe σ tg.slots ∧ tCond C.G F cond σ2 H2 fun b H3 =>
        if b = true then tEv C.G F Wf elt σ2 H3 fun y H4 => ∃ acc, H4 D = some (.lst acc) ∧ acc.length < sizeLine ∧ Nx (upd H4 D (.lst (acc ++ [y]))) else Nx H3) := by
  have hnb := e1.nobs hD
  have nb : ∀ p ∈ C.bs, p.1 ∉ tg.slots := fun p hp z => by
    have h1 := bor_mut (e1.bors p hp).1
    have h2 := List.all_eq_true.mp hpl _ z
    rw [h1] at h2
    cases h2
  generalize hf : lcF F elt tg cond = f at hr
  refine ⟨fun i m H2 => ∃ (p : Env) (acc : List Ap.D) (vs : List V), i + m = ds.length ∧ acc.length ≤ i ∧ lcGo f (ds.drop i) acc p = .ok ys p' ∧ EOk (C.lock D vs) (wipeE p tg.slots) (wipe σ tg.slots) H2 ∧ H2 D = some (.lst vs) ∧
    Rps (fz (C.lock D vs) (wipeE p tg.slots) (wipe σ tg.slots) H2) acc vs ∧ Same (fz C r1 σ H1) (fz (C.lock D vs) (wipeE p tg.slots) (wipe σ tg.slots) H2), ⟨ds.length, r1, [], [], by omega, Nat.le_refl _, hr, ?_, upd_same, .nil, ?_⟩, ?_⟩
  · exact ((e1.locked hD).wiped nb).1
  · have hz : fz C r1 σ H1 D = none := by
      cases q : fz C r1 σ H1 D with
      | none => rfl
      | some o => rw [(msk_some.mp q).2] at hD; cases hD
    exact (lock_fz e1 hD).trans ((e1.locked hD).wiped nb).2
  · rintro i m H2 ⟨p, acc, vs, him, hacc, hgo, e, hDv, rp, sm⟩
    have feed := fd H2 (sm.trans msk_same)
    have hne := e.lockNe hnb
    by_cases hi : i < ds.length
    · have hdr : ds.drop i = ds[i] :: ds.drop (i + 1) := List.drop_eq_getElem_cons hi
      have hget : ds[i]? = some ds[i] := List.getElem?_eq_getElem hi
      obtain ⟨go, yl⟩ := feed.1 i _ hget
      rw [hdr] at hgo
      have hgo : ((f ds[i] p).bind fun o q' => lcGo f (ds.drop (i + 1)) (acc ++ o.toList) q') = .ok ys p' := hgo
      obtain ⟨o, q', h1, h2⟩ : ∃ o q', f ds[i] p = .ok o q' ∧ lcGo f (ds.drop (i + 1)) (acc ++ o.toList) q' = .ok ys p' := by
        cases h1 : f ds[i] p with
        | bad => rw [h1] at hgo; cases hgo
        | exc c r => rw [h1] at hgo; cases hgo
        | ok o q' => rw [h1, Ap.R.bind_ok] at hgo; exact ⟨o, q', rfl, hgo⟩
      rw [← hf] at h1
      obtain ⟨q1, b, q2, hbind, hcond, hres⟩ := lcF_ok h1
      -- the turn's end
      have fin : ∀ (σ2 : St) (H3 : Hp) (rr : Env) (acc2 : List Ap.D) (vs2 : List V), wipe σ2 tg.slots = wipe σ tg.slots → EOk (C.lock D vs2) rr σ2 H3 → H3 D = some (.lst vs2) → Rps (fz (C.lock D vs2) rr σ2 H3) acc2 vs2 → acc2.length ≤ i + 1 → lcGo f (ds.drop (i + 1)) acc2 rr = .ok ys p' →
          Same (fz C r1 σ H1) (fz (C.lock D vs2) rr σ2 H3) → ∃ (p : Env) (acc : List Ap.D) (vs : List V), i + 1 + (m - 1) = ds.length ∧ acc.length ≤ i + 1 ∧ lcGo f (ds.drop (i + 1)) acc p = .ok ys p' ∧ EOk (C.lock D vs) (wipeE p tg.slots) (wipe σ tg.slots) H3 ∧ H3 D = some (.lst vs) ∧
          Rps (fz (C.lock D vs) (wipeE p tg.slots) (wipe σ tg.slots) H3) acc vs ∧ Same (fz C r1 σ H1) (fz (C.lock D vs) (wipeE p tg.slots) (wipe σ tg.slots) H3) := by
        intro σ2 H3 rr acc2 vs2 hw er hd rp2 hl hg2 sm2
        obtain ⟨w1, w2⟩ := er.wiped (is := tg.slots) nb
        rw [hw] at w1 w2
        exact ⟨rr, acc2, vs2, by omega, hl, hg2, w1, hd, rp2.mono w2, sm2.trans w2⟩
      refine .inr ⟨go, fun H3 => ∃ (p : Env) (acc : List Ap.D) (vs : List V), i + 1 + (m - 1) = ds.length ∧ acc.length ≤ i + 1 ∧ lcGo f (ds.drop (i + 1)) acc p = .ok ys p' ∧ EOk (C.lock D vs) (wipeE p tg.slots) (wipe σ tg.slots) H3 ∧ H3 D = some (.lst vs) ∧
          Rps (fz (C.lock D vs) (wipeE p tg.slots) (wipe σ tg.slots) H3) acc vs ∧ Same (fz C r1 σ H1) (fz (C.lock D vs) (wipeE p tg.slots) (wipe σ tg.slots) H3), fun H' h => ⟨m - 1, by omega, h⟩, fun x H' y => ?_⟩
      obtain ⟨s1, rpx⟩ := yl x H' y
      have e2 : EOk (C.lock D vs) (wipeE p tg.slots) (wipe σ tg.slots) H' := e.grown s1
      have g2 : Same (fz (C.lock D vs) (wipeE p tg.slots) (wipe σ tg.slots) H2) (fz (C.lock D vs) (wipeE p tg.slots) (wipe σ tg.slots) H') := e.growS s1
      have rpx := (rpx (Msk H2 (C.lock D vs).os (wipeE p tg.slots) (wipe σ tg.slots)) (fun a z => e.live' z) sm).mono (msk_le fun a z => (e.mskS s1 a).mp z)
      have gg : gOf C.K tg x (wipe σ tg.slots) H' (fun σ' H'' => H'' = H' ∧ EOk (C.lock D vs) q1 σ' H' ∧ Same (fz (C.lock D vs) (wipeE p tg.slots) (wipe σ tg.slots) H') (fz (C.lock D vs) q1 σ' H')) :=
        bind_ok (C := C.lock D vs) e2 hbind rpx fun σ' e3 g3 => ⟨rfl, e3, g3⟩
      refine g_mono ?_ (g_only gg)
      rintro σ2 H3 ⟨ho, rfl, e3, g3⟩
      have hw := only_wipe ho
      refine ⟨hw, ?_⟩
      have sm3 := (sm.trans g2).trans g3
      have rp3 : Rps (fz (C.lock D vs) q1 σ2 H3) acc vs := (rp.mono g2).mono g3
      have hD3 : ∀ H4 rr, EOk (C.lock D vs) rr σ2 H4 → H4 D = some (.lst vs) := fun H4 rr e4 => e4.base D _ (show (upd C.H0 D (.lst vs)) D = _ from upd_same) (lock_nobs hnb)
      -- the test
      have after : ∀ H4, EOk (C.lock D vs) q2 σ2 H4 → Same (fz (C.lock D vs) q1 σ2 H3) (fz (C.lock D vs) q2 σ2 H4) → if b = true then tEv C.G F Wf elt σ2 H4 fun y H5 => ∃ acc, H5 D = some (.lst acc) ∧ acc.length < sizeLine ∧
          (∃ (p : Env) (acc_1 : List Ap.D) (vs : List V), i + 1 + (m - 1) = ds.length ∧ acc_1.length ≤ i + 1 ∧ lcGo f (ds.drop (i + 1)) acc_1 p = .ok ys p' ∧ EOk (C.lock D vs) (wipeE p tg.slots) (wipe σ tg.slots) (upd H5 D (.lst (acc ++ [y]))) ∧ (upd H5 D (.lst (acc ++ [y]))) D = some (.lst vs) ∧
          Rps (fz (C.lock D vs) (wipeE p tg.slots) (wipe σ tg.slots) (upd H5 D (.lst (acc ++ [y])))) acc_1 vs ∧ Same (fz C r1 σ H1) (fz (C.lock D vs) (wipeE p tg.slots) (wipe σ tg.slots) (upd H5 D (.lst (acc ++ [y])))))
          else ∃ (p : Env) (acc : List Ap.D) (vs : List V), i + 1 + (m - 1) = ds.length ∧ acc.length ≤ i + 1 ∧ lcGo f (ds.drop (i + 1)) acc p = .ok ys p' ∧ EOk (C.lock D vs) (wipeE p tg.slots) (wipe σ tg.slots) H4 ∧ H4 D = some (.lst vs) ∧
          Rps (fz (C.lock D vs) (wipeE p tg.slots) (wipe σ tg.slots) H4) acc vs ∧ Same (fz C r1 σ H1) (fz (C.lock D vs) (wipeE p tg.slots) (wipe σ tg.slots) H4) := by
        intro H4 e4 g4
        rcases hres with ⟨rfl, yv, hev, rfl⟩ | ⟨rfl, rfl, rfl⟩
        · rw [if_pos rfl]
          refine ⟨C.lock D vs, rfl, q2, e4, ?_⟩
          rw [hev]
          intro y H5 e5 g5 rp5
          have rp5 : Rp (fz (C.lock D vs) q' σ2 H5) yv y := rp5
          refine ⟨vs, hD3 H5 q' e5, ?_, ?_⟩
          · rw [← rp.length]
            omega
          · obtain ⟨e6, g6⟩ := e5.relock (y := .lst (vs ++ [y])) hnb
            refine fin σ2 _ q' (acc ++ [yv]) (vs ++ [y]) hw e6 upd_same ?_ ?_ h2 ?_
            · exact ((((rp3.mono g4).mono g5)).append (.cons rp5 .nil)).mono g6
            · rw [List.length_append]
              simp
              omega
            · exact ((sm3.trans g4).trans g5).trans g6
        · rw [if_neg Bool.false_ne_true]
          refine fin σ2 H4 _ acc vs hw e4 (hD3 H4 _ e4) (rp3.mono g4) (by omega) ?_ (sm3.trans g4)
          simpa using h2
      match cond, hcond with
      | [], hcond =>
        rw [evc] at hcond
        cases hcond
        exact after H3 e3 (Same.refl _)
      | [c], hcond =>
        rw [evc] at hcond
        refine ⟨C.lock D vs, rfl, q1, e3, ?_⟩
        have hcond : ((ev F c q1).bind asBool) = .ok b q2 := hcond
        rw [hcond]
        exact fun H4 e4 g4 => after H4 e4 g4
      | _ :: _ :: _, hcond => rw [evc] at hcond; cases hcond
    · have hi' : i = ds.length := by omega
      subst hi'
      rw [List.drop_length] at hgo
      cases hgo
      obtain ⟨e6, g6⟩ := e1.backL hpl e sm
      exact .inl ⟨feed.2, k vs H2 e6 hDv (rp.mono g6) (sm.trans g6)⟩
theorem rd_lc {elt : Ex} {tg : Tg} {it : Ap.It} {cond : List Ex} {Q : VK} (q : tEv G F W (.lc elt tg it cond) σ H Q) : tLc (tIt G F W it) (gOf G.K tg) (tCond G F cond) (tEv G F Wf elt) tg.slots σ H Q := by
  obtain ⟨C, rfl, r, e, q⟩ := q
  rw [ev] at q
  refine ⟨C, rfl, r, e, ?_⟩
  cases h1 : evIt F it r with
  | bad => rw [h1] at q; exact q.elim
  | exc c r1 => rw [h1] at q; exact q
  | ok ds r1 =>
    rw [h1, Ap.R.bind_ok] at q
    intro J H1 e1 g1 fd hb D hD
    split at q
    · rename_i hpl
      change PostE C W r σ H Q ((noExc (lcGo (lcF F elt tg cond) ds [] r1)).bind fun ys r2 => .ok (.dat (.list ys)) (backE r1 r2 tg.slots)) at q
      cases h2 : lcGo (lcF F elt tg cond) ds [] r1 with
      | bad => rw [h2] at q; exact q.elim
      | exc c r => rw [h2] at q; exact q.elim
      | ok ys p' =>
        rw [h2] at q
        refine lc_run e1 fd hb hD hpl h2 fun vs H2 e2 hd rp sm => ?_
        obtain ⟨e3, g3⟩ := e2.unlock (e1.h0 hD) (e1.nobs hD)
        refine q _ H2 e3 (g1.trans (sm.trans g3)) (.lst ?_ (rp.mono g3))
        refine msk_some.mpr ⟨fun z => ?_, hd⟩
        rcases z with z | ⟨j, z⟩
        · obtain ⟨o, ho⟩ := e1.live D z
          rw [hD] at ho
          cases ho
        · exact e2.lockNe (e1.nobs hD) j D z rfl
    · exact q.elim
end
end Ap

end
section
/-! Statements. -/
namespace Ap
open PySem PySem.Spec PyProof.Rows L2

section
variable {G : Gx} {C : Fx} {W : WX} {F : Nat → FnS} {r r1 r2 : Env} {σ : St} {H H1 : Hp} {D : Ends}

/-! ### an owned or borrowed object is changed -/
/-- slot i holds the changeable object at a -/
def At (r : Env) (σ : St) (i : Nat) (a : Addr) : Prop := isMut r[i]? = true ∧ σ[i]? = some (some (.ref a))
theorem At.mut {i : Nat} {a : Addr} (m : At r σ i a) : MutAt H r σ i a := .of m.1 m.2
def AtL (r : Env) (σ : St) (i : Nat) (a : Addr) : Prop := At r σ i a ∧ kdS r[i]? = .pl
theorem EOk.mo {i : Nat} {ds : List Ap.D} (e : EOk C r σ H) (h : moOf r[i]? = some (.lst ds)) : ∃ a vs, σ[i]? = some (some (.ref a)) ∧ H a = some (.lst vs) ∧ Rps (fz C r σ H) ds vs ∧ AtL r σ i a := by
  rcases moOf_some h with z | z
  · obtain ⟨v, h1, a, rfl, vs, h2, h3⟩ := e.slot i _ z
    exact ⟨a, vs, h1, h2, h3, ⟨moOf_mut h, h1⟩, moOf_kd h⟩
  · obtain ⟨v, h1, a, rfl, vs, h2, h3⟩ := e.slot i _ z
    exact ⟨a, vs, h1, h2, h3, ⟨moOf_mut h, h1⟩, moOf_kd h⟩
/-- what a slot holds is changed, and nothing else -/
theorem EOk.changeG {i : Nat} {a : Addr} {o : MO} {H' : Hp} (e : EOk C r σ H) (m : At r σ i a) (hkd : o.kd = kdS r[i]?) (hk : ∀ b u, ¬ Own o.kd H a b → H b = some u → H' b = some u) (ho : ∀ b, Own o.kd H' a b ↔ Own o.kd H a b) (mo : MoOk (C.fa 900) (fz C r σ H) H' a o) :
    EOk C (putMo r i o) σ H' ∧ Grow C r (putMo r i o) σ H H' := by
  have mi : ∀ b, Own o.kd H a b → MutAt H r σ i b := fun b w => ⟨m.1, a, m.2, by rw [← hkd]; exact w⟩
  have kdp : ∀ j, kdS (putMo r i o)[j]? = kdS r[j]? := fun j => by
    by_cases hj : j = i
    · subst hj
      rw [putMo_self]
      split
      · rename_i z; rw [z] at hkd; exact hkd.trans (by rw [z])
      · rename_i z; rw [z] at hkd; exact hkd.trans (by rw [z])
      · rfl
    · rw [putMo_other hj]
  have mu : ∀ j b, MutAt H' (putMo r i o) σ j b ↔ MutAt H r σ j b := fun j b => by
    have e0 : MutAt H' (putMo r i o) σ j b ↔ MutAt H' r σ j b := by unfold MutAt; rw [putMo_mut, kdp]
    rw [e0]
    by_cases hj : j = i
    · subst hj
      rw [mut_own m.1 m.2, mut_own m.1 m.2, ← hkd]
      exact ho b
    · by_cases hm : isMut r[j]? = true
      · exact e.mutAt (fun x u h1 h2 => hk x u (fun w => hj (e.inj j i x (.of hm h1) (mi x w))) h2) b
      · exact ⟨fun z => absurd z.1 hm, fun z => absurd z.1 hm⟩
  have mk : ∀ b, Msk H' C.os (putMo r i o) σ b ↔ Msk H C.os r σ b := fun b => by unfold Msk; simp only [mu]
  have g : Grow C r (putMo r i o) σ H H' := fun b u q => by
    obtain ⟨h1, h2⟩ := msk_some.mp q
    exact msk_some.mpr ⟨fun z => h1 ((mk b).mp z), hk b u (fun w => h1 (.inr ⟨i, mi b w⟩)) h2⟩
  refine ⟨⟨by rw [putMo_len]; exact e.len, fun j t q => ?_, fun j k b z1 z2 => e.inj j k b ((mu j b).mp z1) ((mu k b).mp z2), fun b z => ?_, fun b o' q n => ?_, fun j o' b q1 q2 => ?_, fun j o' b q1 q2 => ?_, fun p hp => ?_⟩, g⟩
  · by_cases hj : j = i
    · subst hj
      rw [putMo_self] at q
      have mm := m.1
      cases z : r[j]? with
      | none => rw [z] at mm; cases mm
      | some s =>
        cases s with
        | none => rw [z] at mm; cases mm
        | some s =>
          rw [z] at q mm
          cases s with
          | own o2 => cases q; exact ⟨_, m.2, a, rfl, mo.mono g fun _ _ _ z => z⟩
          | bor o2 => cases q; exact ⟨_, m.2, a, rfl, mo.mono g fun _ _ _ z => z⟩
          | _ => cases mm
    · rw [putMo_other hj] at q
      obtain ⟨w, z1, z2⟩ := e.slot j t q
      refine ⟨w, z1, z2.mono g fun x b u e1 e2 ow z => hk b u (fun wa => hj ?_) z⟩
      exact e.inj j i b ⟨by obtain ⟨mm, zz | zz⟩ := e2 <;> (subst zz; rw [q]; rfl), x, by rw [z1, e1], by rw [q]; exact ow⟩ (mi b wa)
  · by_cases hb : Own o.kd H a b
    · exact mo.own ((ho b).mpr hb)
    · obtain ⟨u, hu⟩ := e.live b z
      exact ⟨u, hk b u hb hu⟩
  · refine hk b o' (fun w => ?_) (e.base b o' q n)
    obtain ⟨o2, _, zz | zz, _, _⟩ := e.mobj m.1
    · rw [(e.new i o2 b zz (mi b w)).1] at q
      cases q
    · obtain ⟨p, hp, hw⟩ := e.borOwn zz (mi b w)
      exact n p hp hw
  · have q3 := (mu j b).mp q2
    by_cases hj : j = i
    · subst hj
      rw [putMo_self] at q1
      split at q1
      · rename_i o3 z
        exact e.new j o3 b z q3
      · cases q1
      · exact e.new j o' b q1 q3
    · rw [putMo_other hj] at q1
      exact e.new j o' b q1 q3
  · by_cases hj : j = i
    · subst hj
      rw [putMo_self] at q1
      split at q1
      · cases q1
      · rename_i o3 z
        exact e.bor j o3 b z q2
      · exact e.bor j o' b q1 q2
    · rw [putMo_other hj] at q1
      exact e.bor j o' b q1 q2
  · obtain ⟨h1, h2, h3, h4⟩ := e.bors p hp
    rw [putMo_bor, kdp]
    refine ⟨h1, h2, h3, fun c => ?_⟩
    have z := mu p.1 c
    rw [mut_own (bor_mut h1) h2, mut_own (r := putMo r i o) (by rw [putMo_mut]; exact bor_mut h1) h2, kdp, h3] at z
    exact z.trans (h4 c)
theorem EOk.changeM {i : Nat} {a : Addr} {o : MO} {x : HO} (e : EOk C r σ H) (m : At r σ i a) (hp : o.kd = .pl) (hkd : kdS r[i]? = .pl) (mo : MoOk (C.fa 900) (fz C r σ H) (upd H a x) a o) :
    EOk C (putMo r i o) σ (upd H a x) ∧ Grow C r (putMo r i o) σ H (upd H a x) := by
  refine e.changeG m (hp.trans hkd.symm) (fun b v w h => ?_) (fun b => ?_) mo
  · rw [upd_ne (fun z => w (.inl z))]
    exact h
  · rw [hp, own_pl, own_pl]
theorem EOk.change {i : Nat} {a : Addr} {ds : List Ap.D} {vs us : List V} (e : EOk C r σ H) (m : AtL r σ i a) (hv : H a = some (.lst us)) (rp : Rps (fz C r σ H) ds vs) :
    EOk C (putMo r i (.lst ds)) σ (upd H a (.lst vs)) ∧ Grow C r (putMo r i (.lst ds)) σ H (upd H a (.lst vs)) := e.changeM m.1 rfl m.2 ⟨vs, upd_same, rp⟩

/-- a slot takes a new object, to which P belongs -/
theorem EOk.adoptG {C' : Fx} {P : Addr → Prop} {i : Nat} {a : Addr} {o : MO} (hG : C'.G = C.G) (hos : ∀ b, C'.os b ↔ C.os b ∨ P b) (hbs : C'.bs = C.bs) (hbk : C'.bk = C.bk) (h0 : Same C.H0 C'.H0) (h1 : ∀ p ∈ C.bs, ∀ b, Own (C.bk p.1) C'.H0 p.2 b ↔ Own (C.bk p.1) C.H0 p.2 b) (hP : ∀ b, P b → C.H0 b = none ∧ ¬ C.os b ∧ ∀ p ∈ C.bs, ¬ Own (C.bk p.1) C.H0 p.2 b)
    (e : EOk C' r σ H) (nb : isBor r[i]? = false) (ho : ∀ b, Own o.kd H a b → P b) (mo : MoOk (C.fa 900) (fz C' r σ H) H a o) :
    EOk C (r.set i (some (.own o))) (σ.set i (some (.ref a))) H ∧ Same (fz C' r σ H) (fz C (r.set i (some (.own o))) (σ.set i (some (.ref a))) H) := by
  have hlen := e.len
  have ne : ∀ j b, MutAt H r σ j b → ¬ P b := fun j b m z => by
    obtain ⟨o, _, q | q, _, _⟩ := e.mobj m.1
    · exact (e.new j o b q m).2 ((hos b).mpr (.inr z))
    · obtain ⟨p, hp, hw⟩ := e.borOwn q m
      rw [hbs] at hp
      rw [hbk] at hw
      exact (hP b z).2.2 p hp ((h1 p hp b).mp hw)
  have get : ∀ k : Nat, (r.set i (some (.own o)))[k]? = if k = i ∧ i < r.length then some (some (.own o)) else r[k]? := fun k => set_get
  have getσ : ∀ k : Nat, (σ.set i (some (.ref a)))[k]? = if k = i ∧ i < r.length then some (some (.ref a)) else σ[k]? := fun k => by rw [set_get, ← hlen]
  have mu : ∀ k b, MutAt H (r.set i (some (.own o))) (σ.set i (some (.ref a))) k b → (k = i ∧ i < r.length ∧ P b) ∨ (MutAt H r σ k b ∧ ¬ (k = i ∧ i < r.length)) := fun k b ⟨m1, x, m2, m3⟩ => by
    rw [get] at m1 m3
    rw [getσ] at m2
    by_cases hk : k = i ∧ i < r.length
    · rw [if_pos hk] at m2 m3
      cases m2
      exact .inl ⟨hk.1, hk.2, ho b m3⟩
    · rw [if_neg hk] at m1 m2 m3
      exact .inr ⟨⟨m1, x, m2, m3⟩, hk⟩
  have g : Same (fz C' r σ H) (fz C (r.set i (some (.own o))) (σ.set i (some (.ref a))) H) := msk_le fun b z => by
    rcases z with z | ⟨k, z⟩
    · exact .inl ((hos b).mpr (.inl z))
    · rcases mu k b z with ⟨_, _, z⟩ | ⟨z, _⟩
      · exact .inl ((hos b).mpr (.inr z))
      · exact .inr ⟨k, z⟩
  refine ⟨⟨by simp [hlen], fun k s q => ?_, fun k l b m1 m2 => ?_, fun b z => e.live b ((hos b).mpr (.inl z)), fun b o q n => e.base b o (h0 b o q) (by rw [hbs, hbk]; exact fun p hp w => n p hp ((h1 p hp b).mp w)), fun k o' b q1 q2 => ?_, fun k o' b q1 q2 => ?_, fun p hp => ?_⟩, g⟩
  · rw [get] at q
    rw [getσ]
    by_cases h1 : k = i ∧ i < r.length
    · rw [if_pos h1] at q ⊢
      cases q
      exact ⟨_, rfl, a, rfl, mo.mono g fun _ _ _ z => z⟩
    · rw [if_neg h1] at q ⊢
      obtain ⟨w, z1, z2⟩ := e.slot k s q
      have eK : C'.K = C.K := congrArg Gx.K hG
      have ef : C'.fa = C.fa := congrArg Gx.fa hG
      rw [eK, ef] at z2
      exact ⟨w, z1, z2.mono g fun _ _ _ _ _ _ z => z⟩
  · rcases mu k b m1 with ⟨z1, _, z3⟩ | ⟨z1, _⟩ <;> rcases mu l b m2 with ⟨w1, _, w3⟩ | ⟨w1, _⟩
    · rw [z1, w1]
    · exact absurd z3 (ne l _ w1)
    · exact absurd w3 (ne k _ z1)
    · exact e.inj k l b z1 w1
  · rcases mu k b q2 with ⟨_, _, z⟩ | ⟨z, h1⟩
    · exact ⟨(hP b z).1, (hP b z).2.1⟩
    · rw [get, if_neg h1] at q1
      obtain ⟨y1, y2⟩ := e.new k o' b q1 z
      refine ⟨?_, fun z => y2 ((hos b).mpr (.inl z))⟩
      cases q : C.H0 b with
      | none => rfl
      | some u => rw [h0 b u q] at y1; cases y1
  · rw [get] at q1
    rw [getσ] at q2
    by_cases hk : k = i ∧ i < r.length
    · rw [if_pos hk] at q1
      cases q1
    · rw [if_neg hk] at q1 q2
      have := e.bor k o' b q1 q2
      rwa [hbs] at this
  · obtain ⟨z1, z2, z4, z3⟩ := e.bors p (by rw [hbs]; exact hp)
    have n1 : p.1 ≠ i := fun z => by rw [z, nb] at z1; cases z1
    rw [get, getσ, if_neg (fun z => n1 z.1), if_neg (fun z => n1 z.1)]
    rw [hbk] at z4 z3
    exact ⟨z1, z2, z4, fun b => (z3 b).trans (h1 p hp b)⟩
theorem lock_same {D : Addr} {x : HO} (h : C.H0 D = none) : Same C.H0 (C.lockO D x).H0 := same_upd h

/-! ### x.pop() -/
theorem rd_pop {i : Nat} {Q : VK} (q : tEv G F W (.pop i) σ H Q) : tBM0 G.K "list" rPop (tVar i) σ H Q := by
  obtain ⟨C, rfl, r, e, q⟩ := q
  rw [ev] at q
  unfold popL at q
  split at q
  · rename_i ds h
    split at q
    · rename_i d hd
      obtain ⟨a, vs, h1, h2, h3, m⟩ := e.mo h
      refine ⟨_, h1, .inl ⟨rfl, vs, .of h2⟩, ?_⟩
      have hl : ds[ds.length - 1]? = some d := by rw [List.getLast?_eq_getElem?] at hd; exact hd
      obtain ⟨v, z1, z2⟩ := h3.get hl
      obtain ⟨e1, g1⟩ := e.change m h2 h3.dropLast
      exact ⟨a, vs, v, rfl, rfl, h2, by rw [← h3.length]; exact z1, q v _ e1 g1 (z2.mono g1)⟩
    · exact q.elim
  · exact q.elim

/-! ### readings of statements -/
def PostS (C : Fx) (W : WX) (D : Ends) (F0 : Hp) : RS → Prop
  | .nx r => ∀ σ H, EOk C r σ H → Same F0 (fz C r σ H) → D.nx σ H
  | .ret d r => ∀ v σ H, EOk C r σ H → Rp (msk H C.os) d v → D.rt v H
  | .brk r => ∀ σ H, EOk C r σ H → Same F0 (fz C r σ H) → D.bk σ H
  | .cnt r => ∀ σ H, EOk C r σ H → Same F0 (fz C r σ H) → D.ct σ H
  | .exc c r => ∀ σ H, EOk C r σ H → W (.ref (C.ca c)) none σ H
  | .bad => False
theorem PostS.after {F0 F1 : Hp} {z : RS} (q : PostS C W D F0 z) (g : Same F0 F1) : PostS C W D F1 z := by
  cases z with
  | nx r => exact fun σ H e s => q σ H e (g.trans s)
  | ret d r => exact q
  | brk r => exact fun σ H e s => q σ H e (g.trans s)
  | cnt r => exact fun σ H e s => q σ H e (g.trans s)
  | exc c r => exact q
  | bad => exact q
def tRun (G : Gx) (F : Nat → FnS) (W : WX) (s : Sm) : TS := fun D σ H => ∃ C : Fx, C.G = G ∧ ∃ r, EOk C r σ H ∧ PostS C W D (fz C r σ H) (run F s r)
def tRuns (G : Gx) (F : Nat → FnS) (W : WX) (s : List Sm) : TS := fun D σ H => ∃ C : Fx, C.G = G ∧ ∃ r, EOk C r σ H ∧ PostS C W D (fz C r σ H) (runs F s r)

theorem rs_nil (q : tRuns G F W [] D σ H) : tNext D σ H := by
  obtain ⟨C, rfl, r, e, q⟩ := q
  rw [runs] at q
  exact q σ H e (Same.refl _)
theorem rs_cons {s : Sm} {ss : List Sm} (q : tRuns G F W (s :: ss) D σ H) : tSeq (tRun G F W s) (tRuns G F W ss) D σ H := by
  obtain ⟨C, rfl, r, e, q⟩ := q
  rw [runs] at q
  refine ⟨C, rfl, r, e, ?_⟩
  cases h : run F s r with
  | nx r1 => rw [h] at q; exact fun σ' H' e' s' => ⟨C, rfl, r1, e', PostS.after q s'⟩
  | ret d r1 => rw [h] at q; exact q
  | brk r1 => rw [h] at q; exact q
  | cnt r1 => rw [h] at q; exact q
  | exc c r1 => rw [h] at q; exact q
  | bad => rw [h] at q; exact q.elim
theorem rs_pass (q : tRun G F W .pass D σ H) : tNext D σ H := by
  obtain ⟨C, rfl, r, e, q⟩ := q
  rw [run] at q
  exact q σ H e (Same.refl _)
theorem rs_brk (q : tRun G F W .brk D σ H) : tBreak D σ H := by
  obtain ⟨C, rfl, r, e, q⟩ := q
  rw [run] at q
  exact q σ H e (Same.refl _)
theorem rs_cnt (q : tRun G F W .cnt D σ H) : tCont D σ H := by
  obtain ⟨C, rfl, r, e, q⟩ := q
  rw [run] at q
  exact q σ H e (Same.refl _)
theorem rs_exp {e : Ex} (q : tRun G F W (.exp e) D σ H) : tDrop (tEv G F W e) D σ H := by
  obtain ⟨C, rfl, r, ek, q⟩ := q
  rw [run] at q
  refine ⟨C, rfl, r, ek, ?_⟩
  cases h : ev F e r with
  | bad => rw [h] at q; exact q.elim
  | exc c r1 => rw [h] at q; exact fun H' e' => q σ H' e'
  | ok v r1 => rw [h] at q; exact fun v H' e' g' _ => q σ H' e' g'
theorem rs_ret {e : Ex} (q : tRun G F W (.ret e) D σ H) : tRet (tEv G F W e) D σ H := by
  obtain ⟨C, rfl, r, ek, q⟩ := q
  rw [run] at q
  refine ⟨C, rfl, r, ek, ?_⟩
  cases h : ev F e r with
  | bad => rw [h] at q; exact q.elim
  | exc c r1 => rw [h] at q; exact fun H' e' => q σ H' e'
  | ok x r1 =>
    rw [h, R.st_ok] at q
    intro v H' e' g' ok
    cases x with
    | dat d => exact q v σ H' e' (Rp.mono (msk_le fun a z => .inl z) ok)
    | own i =>
      unfold retV at q
      simp only at q
      split at q
      · rename_i ds hi
        obtain ⟨w, h1, a, rfl, vs, h2, h3⟩ := e'.slot i _ hi
        have ok : σ[i]? = some (some v) := ok
        rw [h1] at ok
        cases ok
        exact q _ σ H' e' (.lst (msk_some.mpr ⟨(e'.new i _ a hi (.of (by rw [hi]; rfl) h1)).2, h2⟩) (h3.mono (msk_le fun a z => .inl z)))
      · exact q.elim
    | fn k => exact q.elim
    | scr ns => exact q.elim
theorem rs_ite {c : Ex} {a b : List Sm} (q : tRun G F W (.ite c a b) D σ H) : tIfS (tEvT G F W c) (tRuns G F W a) (tRuns G F W b) D σ H := by
  obtain ⟨C, rfl, r, ek, q⟩ := q
  rw [run] at q
  refine ⟨C, rfl, r, ek, ?_⟩
  cases h : ev F c r with
  | bad => rw [h] at q; exact q.elim
  | exc c r1 => rw [h] at q; exact fun H' e' => q σ H' e'
  | ok x r1 =>
    rw [h, R.st_ok] at q
    show PostT C W r σ H _ (asBool x r1)
    unfold asBool at q ⊢
    split at q
    · rename_i b
      intro H' e' g'
      cases b with
      | true => exact ⟨C, rfl, r1, e', PostS.after q g'⟩
      | false => exact ⟨C, rfl, r1, e', PostS.after q g'⟩
    · exact q.elim
/-! ### assignments -/
theorem rs_asg {tg : Tg} {e : Ex} (q : tRun G F W (.asg tg e) D σ H) : tAsg (tEv G F W e) (gOf G.K tg) D σ H := by
  obtain ⟨C, rfl, r, ek, q⟩ := q
  rw [run] at q
  refine ⟨C, rfl, r, ek, ?_⟩
  cases h : ev F e r with
  | bad => rw [h] at q; exact q.elim
  | exc c r1 => rw [h] at q; exact fun H' e' => q σ H' e'
  | ok x r1 =>
    rw [h, R.st_ok] at q
    intro v H' e' g' ok
    cases h2 : assignV r1 tg x with
    | none => rw [h2] at q; exact q.elim
    | some r2 =>
      rw [h2] at q
      have q : ∀ σ H, EOk C r2 σ H → Same _ (fz C r2 σ H) → D.nx σ H := q
      cases x with
      | dat d =>
        have h2 : bindTg r1 tg d = some r2 := by cases tg <;> exact h2
        exact bind_ok e' h2 ok fun σ' e2 g2 => q σ' H' e2 (g'.trans g2)
      | own i =>
        cases tg with
        | many is => cases h2
        | one j =>
          unfold assignV at h2
          simp only at h2
          split at h2
          · rename_i o hi
            have ok : σ[i]? = some (some v) := ok
            unfold setS at h2
            split at h2
            · cases h2
            · rename_i nb
              cases h2
              show D.nx (σ.set j (some v)) H'
              -- the object moves from slot i to slot j
              obtain ⟨w, h1, a, rfl, h3⟩ := e'.slot i _ hi
              rw [ok] at h1
              cases h1
              have hl := e'.len
              have hil : i < r1.length := (List.getElem?_eq_some_iff.mp hi).1
              have ma : ∀ b, Own o.kd H' a b → MutAt H' r1 σ i b := fun b w => ⟨by rw [hi]; rfl, a, ok, by rw [hi]; exact w⟩
              have hne := fun b w => e'.new i _ b hi (ma b w)
              have nb : isBor (r1.set i none)[j]? = false := by simpa using nb
              -- what stands at k now
              have get : ∀ k : Nat, ((r1.set i none).set j (some (.own o)))[k]? = if k = j ∧ j < r1.length then some (some (.own o)) else if k = i then some none else r1[k]? := fun k => by
                rw [set_get, set_get, List.length_set]
                by_cases h1 : k = j ∧ j < r1.length
                · rw [if_pos h1, if_pos h1]
                · rw [if_neg h1, if_neg h1]
                  by_cases h2 : k = i
                  · rw [if_pos ⟨h2, hil⟩, if_pos h2]
                  · rw [if_neg (fun z => h2 z.1), if_neg h2]
              have getσ : ∀ k : Nat, (σ.set j (some (.ref a)))[k]? = if k = j ∧ j < r1.length then some (some (.ref a)) else σ[k]? := fun k => by rw [set_get, ← hl]
              have nbj : j ≠ i → isBor r1[j]? = false := fun z => by
                rw [set_get, if_neg (fun w => z w.1)] at nb
                exact nb
              have mu : ∀ k b, MutAt H' ((r1.set i none).set j (some (.own o))) (σ.set j (some (.ref a))) k b → (k = j ∧ j < r1.length ∧ Own o.kd H' a b) ∨ (MutAt H' r1 σ k b ∧ k ≠ i ∧ ¬ (k = j ∧ j < r1.length)) := fun k b ⟨m1, x, m2, m3⟩ => by
                rw [get] at m1 m3
                rw [getσ] at m2
                by_cases h1 : k = j ∧ j < r1.length
                · rw [if_pos h1] at m2 m3
                  cases m2
                  exact .inl ⟨h1.1, h1.2, m3⟩
                · rw [if_neg h1] at m1 m2 m3
                  by_cases h2 : k = i
                  · rw [if_pos h2] at m1; cases m1
                  · rw [if_neg h2] at m1 m3
                    exact .inr ⟨⟨m1, x, m2, m3⟩, h2, h1⟩
              have g : Same (fz C r1 σ H') (fz C ((r1.set i none).set j (some (.own o))) (σ.set j (some (.ref a))) H') := msk_le fun b z => by
                rcases z with z | ⟨k, z⟩
                · exact .inl z
                · rcases mu k b z with ⟨_, _, w⟩ | ⟨z, _⟩
                  · exact .inr ⟨i, ma b w⟩
                  · exact .inr ⟨k, z⟩
              refine q _ H' ?_ (g'.trans g)
              refine ⟨by simp [hl], fun k s q => ?_, fun k l b m1 m2 => ?_, e'.live, e'.base, fun k o' b q1 q2 => ?_, fun k o' b q1 q2 => ?_, fun p hp => ?_⟩
              · rw [get] at q
                rw [getσ]
                by_cases h1 : k = j ∧ j < r1.length
                · rw [if_pos h1] at q ⊢
                  cases q
                  exact ⟨_, rfl, a, rfl, h3.mono g fun _ _ _ z => z⟩
                · rw [if_neg h1] at q ⊢
                  by_cases h2 : k = i
                  · rw [if_pos h2] at q; cases q
                  · rw [if_neg h2] at q
                    obtain ⟨w, z1, z2⟩ := e'.slot k s q
                    exact ⟨w, z1, z2.mono g fun _ _ _ _ _ _ z => z⟩
              · rcases mu k b m1 with ⟨z1, _, z3⟩ | ⟨z1, z2, _⟩ <;> rcases mu l b m2 with ⟨w1, _, w3⟩ | ⟨w1, w2, _⟩
                · rw [z1, w1]
                · exact absurd (e'.inj l i b w1 (ma b z3)) w2
                · exact absurd (e'.inj k i _ z1 (ma b w3)) z2
                · exact e'.inj k l b z1 w1
              · rcases mu k b q2 with ⟨z1, z2, z3⟩ | ⟨z1, z2, z3⟩
                · exact hne b z3
                · rw [get, if_neg z3, if_neg z2] at q1
                  exact e'.new k o' b q1 z1
              · rw [get] at q1
                rw [getσ] at q2
                by_cases h1 : k = j ∧ j < r1.length
                · rw [if_pos h1] at q1
                  cases q1
                · rw [if_neg h1] at q1 q2
                  by_cases h2 : k = i
                  · rw [if_pos h2] at q1; cases q1
                  · rw [if_neg h2] at q1
                    exact e'.bor k o' b q1 q2
              · obtain ⟨z1, z2⟩ := e'.bors p hp
                have n1 : p.1 ≠ i := fun z => by rw [z, hi] at z1; cases z1
                have n2 : p.1 ≠ j := fun z => by
                  by_cases hji : j = i
                  · exact n1 (z.trans hji)
                  · rw [z, nbj hji] at z1; cases z1
                rw [get, getσ, if_neg (fun z => n2 z.1), if_neg n1, if_neg (fun z => n2 z.1)]
                exact ⟨z1, z2⟩
          · cases h2
      | fn k =>
        cases tg with
        | many is => cases h2
        | one j =>
          have h2 : setS r1 j (.fn k) = some r2 := h2
          unfold setS at h2
          split at h2
          · cases h2
          · rename_i nb
            cases h2
            obtain ⟨z1, z2⟩ := e'.put (s := .fn k) (v := v) (by simpa using nb) rfl ok
            exact q _ H' z1 (g'.trans z2)
      | scr ns => cases tg <;> cases h2
/-! ### x += e -/
theorem rs_aug {o : Op} {i : Nat} {e : Ex} {t : TIp} (hp : ∀ C : Fx, C.G = G → Prim2 C o t) (q : tRun G F W (.aug o i e) D σ H) : tAug i (tEv G F W e) t D σ H := by
  obtain ⟨C, rfl, r, ek, q⟩ := q
  rw [run] at q
  cases h0 : rdVar r i with
  | bad => rw [h0] at q; exact q.elim
  | exc c r1 =>
    unfold rdVar at h0
    split at h0 <;> cases h0
  | ok x r0 =>
    have hr0 : r0 = r := by
      unfold rdVar at h0
      split at h0 <;> cases h0 <;> rfl
    subst hr0
    rw [h0, R.st_ok] at q
    obtain ⟨vx, hx, okx⟩ : ∃ vx, σ[i]? = some (some vx) ∧ VlOk C r0 σ H x vx := by
      unfold rdVar at h0
      split at h0
      · rename_i d h
        obtain ⟨v, h1, h2⟩ := ek.slot i _ h
        cases h0
        exact ⟨v, h1, h2⟩
      · rename_i d h
        obtain ⟨v, h1, h2⟩ := ek.slot i _ h
        cases h0
        exact ⟨v, h1, h1⟩
      · rename_i d h
        obtain ⟨v, h1, h2⟩ := ek.slot i _ h
        cases h0
        exact ⟨v, h1, h1⟩
      · rename_i d h
        obtain ⟨v, h1, h2⟩ := ek.slot i _ h
        cases h0
        exact ⟨v, h1, h2⟩
      · rename_i d h
        obtain ⟨v, h1, h2⟩ := ek.slot i _ h
        cases h0
        exact ⟨v, h1, h2⟩
      · cases h0
    refine ⟨vx, hx, C, rfl, r0, ek, ?_⟩
    cases h : ev F e r0 with
    | bad => rw [h] at q; exact q.elim
    | exc c r1 => rw [h] at q; exact fun H' e' => q σ H' e'
    | ok y r1 =>
      rw [h, R.st_ok] at q
      intro v H' e' g' ok
      cases h2 : views r1 [x, y] with
      | none => rw [h2] at q; exact q.elim
      | some ds =>
        rw [h2, R.of_some, R.st_ok] at q
        cases h3 : Ap.prim o ds with
        | none => rw [h3] at q; exact q.elim
        | some d =>
          rw [h3, R.of_some, R.st_ok] at q
          have od := VlsOk.ods e' (.cons (okx.grow g') (.cons ok .nil) : VlsOk C r1 σ H' [x, y] [vx, v]) h2
          match ds, od, h3 with
          | [p1, q1], .cons i1 (.cons j1 .nil), h3 =>
            refine hp C rfl r1 σ H' p1 q1 d vx v _ e' i1 j1 h3 fun z H2 s2 rp => ?_
            cases h4 : setS r1 i (.dat d) with
            | none => rw [h4] at q; exact q.elim
            | some r2 =>
              rw [h4] at q
              obtain ⟨z1, z2⟩ := setS_ok (e'.grown s2) h4 rp
              exact q _ H2 z1 ((g'.trans (e'.growS s2)).trans z2)
end
end Ap

end
section
/-! Statements that change or own objects; loops. -/
namespace Ap
open PySem PySem.Spec PyProof.Rows L2

/-! ### l.remove(x) over data -/
def rRemD (K : PySem.W.Frag) : V → List V → Hp → VK → Prop := fun x xs H Q => ∃ (l : Addr) (us : List V) (y : V) (d : D) (ds : List D) (j : Nat), x = .ref l ∧ xs = [y] ∧ H l = some (.lst us) ∧ DpAll K H us ds ∧ Dp K H y d ∧ PyData.plainAll ds = true ∧ d.plain = true ∧ min (PyData.depthAll ds) d.depth ≤ 64 ∧ (ds.findIdx? fun z => PyData.eqv z d) = some j ∧ Q .non (upd H l (.lst (us.eraseIdx j)))
theorem erase_bounds {us : List Value} {j : Nat} : us.toArray.eraseIdxIfInBounds j = (us.eraseIdx j).toArray := by
  unfold Array.eraseIdxIfInBounds
  split
  · simp
  · rename_i h
    rw [List.eraseIdx_of_length_le]
    simpa using h
theorem mt_remD {X : Cx} (hu : X.A.units + 65 < cLine) : MtM X "list.remove" (rRemD X.K) := by
  intro pins s σ H x xs v us Q I rx rxs h
  obtain ⟨l, zs, y, d, ds, j, rfl, rfl, hH, hds, hd, p1, p2, hm, hj, q⟩ := h
  cases rx
  obtain ⟨u, rfl, ru⟩ := rxs.one
  obtain ⟨z, its, n, rv, hl, e⟩ := I.lstM hH
  obtain ⟨bs, r1⟩ := Dp.reads I d y u hd ru
  obtain ⟨as, r2⟩ := Dp.readsAll I ds _ its hds rv
  refine SeqAt.remove_list_data (l := l) (vs := its.toArray) ⟨_, e, rfl, n, rfl⟩ (by simpa using r2) r1 p1 p2 (by omega) hj (by rw [List.size_toArray]; omega) ?_
  refine ⟨.non, _, I.lset (its' := its.eraseIdx j) (t' := s.toks) hH e erase_bounds (rv.eraseIdx j) ?_, rfl, q⟩
  exact Nat.le_trans (len_erase _ _) z

section
variable {G : Gx} {C : Fx} {W : WX} {F : Nat → FnS} {r r1 r2 : Env} {σ : St} {H H1 : Hp} {D : Ends}

/-! ### methods of owned lists: x.m(e) as a statement -/
def tMet (G : Gx) (t : V → List V → Hp → VK → Prop) (i : Nat) (te : TA) : TS := tDrop (tBM G.K "list" t (tVar i) te)
theorem isLst_ok {i : Nat} (h : isLst r i = true) : ∃ ds, moOf r[i]? = some (.lst ds) := by
  unfold isLst at h
  split at h
  · exact ⟨_, by assumption⟩
  · cases h
theorem met_run {i : Nat} {e : Ex} {t : V → List V → Hp → VK → Prop} {f : Env → Ap.D → Option Env}
    (hf : ∀ (C : Fx) (r : Env) (σ : St) (H : Hp) (d : Ap.D) (r' : Env) (v y : V) (Q : VK), C.G = G → EOk C r σ H → f r d = some r' → σ[i]? = some (some v) → Rp (fz C r σ H) d y → (∀ H', EOk C r' σ H' → Grow C r r' σ H H' → Q .non H') → t v [y] H Q)
    (hC : C.G = G) (ek : EOk C r σ H)
    (q : PostS C W D (fz C r σ H) (if isLst r i then (ev F e r).st fun v r1 => (asDat v r1).st fun d _ => RS.of (f r1 d) else .bad)) : tMet G t i (tEvs G F W [e]) D σ H := by
  split at q
  · rename_i hl
    obtain ⟨ds, hm⟩ := isLst_ok hl
    obtain ⟨a, vs, h1, h2, h3, _⟩ := ek.mo hm
    refine ⟨.ref a, h1, .inl ⟨rfl, vs, .of h2⟩, C, hC, r, ek, ?_⟩
    rw [evs_cons]
    cases h : ev F e r with
    | bad => rw [h] at q; exact q.elim
    | exc c r1 => rw [h] at q; exact fun H' e' => q σ H' e'
    | ok x r1 =>
      rw [h, R.st_ok] at q
      rw [R.bind_ok, evs_nil, R.bind_ok]
      intro xs H' e' g' ok
      cases ok with
      | cons ok1 ok2 =>
        cases ok2
        cases x with
        | dat d =>
          have q : PostS C W D (fz C r σ H) (RS.of (f r1 d)) := q
          cases h4 : f r1 d with
          | none => rw [h4] at q; exact q.elim
          | some r2 =>
            rw [h4] at q
            exact hf C r1 σ H' d r2 _ _ _ hC e' h4 h1 ok1 fun H2 e2 g2 => q σ H2 e2 (g'.trans g2)
        | _ => exact q.elim
  · exact q.elim
theorem rs_app {i : Nat} {e : Ex} (q : tRun G F W (.app i e) D σ H) : tMet G rAppend i (tEvs G F W [e]) D σ H := by
  obtain ⟨C, hC, r, ek, q⟩ := q
  rw [run] at q
  refine met_run (f := fun r d => appD r i d) (fun C r σ H d r' v y Q hC e h h1 rp k => ?_) hC ek q
  unfold appD at h
  split at h
  · rename_i ds hm
    split at h
    · rename_i hl
      cases h
      obtain ⟨a, vs, z1, z2, z3, m⟩ := e.mo hm
      rw [z1] at h1
      cases h1
      exact ⟨a, vs, y, rfl, rfl, z2, by rw [← z3.length, ← lim_eq]; exact hl, let z := e.change m z2 (z3.append (.cons rp .nil)); k _ z.1 z.2⟩
    · cases h
  · cases h
theorem rs_ext {i : Nat} {e : Ex} (q : tRun G F W (.ext i e) D σ H) : tMet G rExtend i (tEvs G F W [e]) D σ H := by
  obtain ⟨C, hC, r, ek, q⟩ := q
  rw [run] at q
  refine met_run (f := fun r d => extD r i d) (fun C r σ H d r' v y Q hC e h h1 rp k => ?_) hC ek q
  unfold extD at h
  split at h
  · rename_i ds es hm
    split at h
    · rename_i hl
      cases h
      obtain ⟨a, vs, z1, z2, z3, m⟩ := e.mo hm
      rw [z1] at h1
      cases h1
      cases rp with
      | lst w1 w2 => exact ⟨a, _, vs, _, rfl, rfl, z2, msk_same _ _ w1, by rw [← z3.length, ← w2.length, ← lim_eq]; exact hl, let z := e.change m z2 (z3.append w2); k _ z.1 z.2⟩
    · cases h
  · cases h
theorem rs_rem {i : Nat} {e : Ex} (q : tRun G F W (.rem i e) D σ H) : tMet G (rRemD G.K) i (tEvs G F W [e]) D σ H := by
  obtain ⟨C, hC, r, ek, q⟩ := q
  rw [run] at q
  refine met_run (f := fun r d => remD r i d) (fun C r σ H d r' v y Q hC e h h1 rp k => ?_) hC ek q
  subst hC
  unfold remD at h
  split at h
  · rename_i ds hm
    split at h
    · rename_i hl
      obtain ⟨j, hj, rfl⟩ := Option.map_eq_some_iff.mp h
      obtain ⟨a, vs, z1, z2, z3, m⟩ := e.mo hm
      rw [z1] at h1
      cases h1
      refine ⟨a, vs, y, d, ds, j, rfl, rfl, z2, (z3.mono msk_same).dp, (rp.mono msk_same).dp, z3.plain, rp.plain, ?_, hj, let z := e.change m z2 (z3.eraseIdx j); k _ z.1 z.2⟩
      have hl : (okP d || decide (PyData.depthAll ds + 1 ≤ 64)) = true := by
        rw [Bool.or_comm]
        simpa [okP, PyData.depth] using hl
      exact okP_in hl
    · cases h
  · cases h
/-! ### x[k] = e -/
theorem rs_seti {i : Nat} {k e : Ex} (q : tRun G F W (.seti i k e) D σ H) : tAsg (tEv G F W e) (gSub (tVar i) (tEv G F W k) rSetL) D σ H := by
  obtain ⟨C, rfl, r, ek, q⟩ := q
  rw [run] at q
  refine ⟨C, rfl, r, ek, ?_⟩
  cases h : ev F e r with
  | bad => rw [h] at q; exact q.elim
  | exc c r1 => rw [h] at q; exact fun H' e' => q σ H' e'
  | ok x r1 =>
    rw [h, R.st_ok] at q
    intro v H' e' g' ok
    cases x with
    | dat d =>
      have q : PostS C W D (fz C r σ H) (if isLst r1 i then (ev F k r1).st fun w r2 => (asDat w r2).st fun kd _ => RS.of (setiD r2 i kd d) else .bad) := q
      split at q
      · rename_i hl
        obtain ⟨ds, hm⟩ := isLst_ok hl
        obtain ⟨a, vs, h1, h2, h3, _⟩ := e'.mo hm
        refine ⟨.ref a, h1, C, rfl, r1, e', ?_⟩
        cases h4 : ev F k r1 with
        | bad => rw [h4] at q; exact q.elim
        | exc c r1 => rw [h4] at q; exact fun H' e' => q σ H' e'
        | ok y r2 =>
          rw [h4, R.st_ok] at q
          intro w H2 e2 g2 ok2
          cases y with
          | dat kd =>
            have q : PostS C W D (fz C r σ H) (RS.of (setiD r2 i kd d)) := q
            cases h5 : setiD r2 i kd d with
            | none => rw [h5] at q; exact q.elim
            | some r3 =>
              rw [h5] at q
              unfold setiD at h5
              split at h5
              · rename_i ds2 j hm2
                obtain ⟨n, hn, rfl⟩ := Option.map_eq_some_iff.mp h5
                obtain ⟨a2, vs2, z1, z2, z3, m⟩ := e2.mo hm2
                rw [h1] at z1
                cases z1
                cases ok2
                refine ⟨a, vs2, j, n, rfl, rfl, z2, by rw [← z3.length]; exact hn, ?_⟩
                obtain ⟨y1, y2⟩ := e2.change m z2 (z3.set (Rp.mono g2 ok) n)
                exact q σ _ y1 ((g'.trans g2).trans y2)
              · cases h5
          | _ => exact q.elim
      · exact q.elim
    | _ => exact q.elim
/-! ### loops -/
theorem rs_for {tg : Tg} {it : Ap.It} {b : List Sm} (q : tRun G F W (.forS tg it b) D σ H) : tFor (tIt G F W it) (gOf G.K tg) (tRuns G F W b) D σ H := by
  obtain ⟨C, rfl, r, ek, q⟩ := q
  rw [run] at q
  refine ⟨C, rfl, r, ek, ?_⟩
  cases h : evIt F it r with
  | bad => rw [h] at q; exact q.elim
  | exc c r1 => rw [h] at q; exact fun H' e' => q σ H' e'
  | ok ds r1 =>
    rw [h, R.st_ok] at q
    intro J H1 e1 g1 fd hb
    generalize hf : (fun (d : Ap.D) (q : Env) => (R.of (bindTg q tg d) q).st fun q1 _ => runs F b q1) = f at q
    have q : PostS C W D (fz C r1 σ H1) (forGo f ds r1) := PostS.after q g1
    generalize hF0 : fz C r1 σ H1 = F0 at q fd
    have s0 : Same F0 (fz C r1 σ H1) := by rw [hF0]; exact Same.refl _
    refine ⟨fun i m σ2 H2 => ∃ p, i + m = ds.length ∧ EOk C p σ2 H2 ∧ Same F0 (fz C p σ2 H2) ∧ PostS C W D F0 (forGo f (ds.drop i) p), ⟨ds.length, r1, by omega, e1, s0, q⟩, ?_⟩
    rintro i m σ2 H2 ⟨p, him, e2, sm, q2⟩
    have feed := fd H2 (sm.trans msk_same)
    by_cases hi : i < ds.length
    · have hdr : ds.drop i = ds[i] :: ds.drop (i + 1) := List.drop_eq_getElem_cons hi
      have hget : ds[i]? = some ds[i] := List.getElem?_eq_getElem hi
      obtain ⟨go, yl⟩ := feed.1 i _ hget
      rw [hdr] at q2
      unfold forGo at q2
      have hfd : f ds[i] p = (R.of (bindTg p tg ds[i]) p).st fun q1 _ => runs F b q1 := by rw [← hf]
      rw [hfd] at q2
      refine .inr ⟨go, fun σ3 H3 => ∃ p, i + 1 + (m - 1) = ds.length ∧ EOk C p σ3 H3 ∧ Same F0 (fz C p σ3 H3) ∧ PostS C W D F0 (forGo f (ds.drop (i + 1)) p), fun σ' H' h => ⟨m - 1, by omega, h⟩, fun x H' y => ?_⟩
      obtain ⟨s1, rpx⟩ := yl x H' y
      have e3 : EOk C p σ2 H' := e2.grown s1
      have rpx := (rpx (Msk H2 C.os p σ2) (fun a z => e2.live' z) sm).mono (msk_le fun a z => (e2.mskS s1 a).mp z)
      have g3 : Same (fz C p σ2 H2) (fz C p σ2 H') := e2.growS s1
      cases hb : bindTg p tg ds[i] with
      | none => rw [hb] at q2; exact q2.elim
      | some p1 =>
        rw [hb, R.of_some, R.st_ok] at q2
        refine bind_ok e3 hb rpx fun σ4 e4 g4 => ⟨C, rfl, p1, e4, ?_⟩
        have sm4 := (sm.trans g3).trans g4
        cases hr : runs F b p1 with
        | nx p2 =>
          rw [hr] at q2
          exact fun σ5 H5 e5 s5 => ⟨p2, by omega, e5, sm4.trans s5, q2⟩
        | cnt p2 =>
          rw [hr] at q2
          exact fun σ5 H5 e5 s5 => ⟨p2, by omega, e5, sm4.trans s5, q2⟩
        | brk p2 =>
          rw [hr] at q2
          exact fun σ5 H5 e5 s5 => q2 σ5 H5 e5 (sm4.trans s5)
        | ret d p2 => rw [hr] at q2; exact q2
        | exc c p2 => rw [hr] at q2; exact q2
        | bad => rw [hr] at q2; exact q2.elim
    · have hi' : i = ds.length := by omega
      subst hi'
      rw [List.drop_length] at q2
      exact .inl ⟨feed.2, q2 σ2 H2 e2 sm⟩
theorem rs_whl {n : Nat} {c : Ex} {b : List Sm} (q : tRun G F W (.whl n c b) D σ H) : tWhile (tEvT G F W c) (tRuns G F W b) D σ H := by
  obtain ⟨C, rfl, r, ek, q⟩ := q
  rw [run] at q
  generalize hF0 : fz C r σ H = F0 at q
  have s0 : Same F0 (fz C r σ H) := by rw [hF0]; exact Same.refl _
  refine ⟨fun m σ2 H2 => ∃ p, EOk C p σ2 H2 ∧ Same F0 (fz C p σ2 H2) ∧ PostS C W D F0 (whlGo (fun q => (ev F c q).bind asBool) (runs F b) m p), ⟨n, r, ek, s0, q⟩, ?_⟩
  rintro m σ2 H2 ⟨p, e2, sm, q2⟩
  cases m with
  | zero => exact q2.elim
  | succ m =>
    unfold whlGo at q2
    refine ⟨C, rfl, p, e2, ?_⟩
    cases hc : (ev F c p).bind asBool with
    | bad => rw [hc] at q2; exact q2.elim
    | exc c r1 => rw [hc] at q2; exact fun H' e' => q2 σ2 H' e'
    | ok x p1 =>
      rw [hc, R.st_ok] at q2
      intro H3 e3 g3
      have sm3 := sm.trans g3
      cases x with
      | false => exact q2 σ2 H3 e3 sm3
      | true =>
        rw [if_pos rfl] at q2 ⊢
        refine ⟨fun σ5 H5 => ∃ p, EOk C p σ5 H5 ∧ Same F0 (fz C p σ5 H5) ∧ PostS C W D F0 (whlGo (fun q => (ev F c q).bind asBool) (runs F b) m p), fun σ' H' h => ⟨m, Nat.lt_succ_self _, h⟩, C, rfl, p1, e3, ?_⟩
        cases hr : runs F b p1 with
        | nx p2 =>
          rw [hr] at q2
          exact fun σ5 H5 e5 s5 => ⟨p2, e5, sm3.trans s5, q2⟩
        | cnt p2 =>
          rw [hr] at q2
          exact fun σ5 H5 e5 s5 => ⟨p2, e5, sm3.trans s5, q2⟩
        | brk p2 =>
          rw [hr] at q2
          exact fun σ5 H5 e5 s5 => q2 σ5 H5 e5 (sm3.trans s5)
        | ret d p2 => rw [hr] at q2; exact q2
        | exc c p2 => rw [hr] at q2; exact q2
        | bad => rw [hr] at q2; exact q2.elim
end
section
variable {G : Gx} {W : WX} {F : Nat → FnS} {σ : St} {H : Hp} {D : Ends}
/-- a, b = a list -/
theorem rs_asgL {is : List Nat} {e : Ex} (q : tRun G F W (.asgL is e) D σ H) : tAsg (tEv G F W e) (gUnl G.K is.length (gsOf is)) D σ H := by
  obtain ⟨C, rfl, r, ek, q⟩ := q
  rw [run] at q
  refine ⟨C, rfl, r, ek, ?_⟩
  cases h : ev F e r with
  | bad => rw [h] at q; exact q.elim
  | exc c r1 => rw [h] at q; exact fun H' e' => q σ H' e'
  | ok x r1 =>
    rw [h, R.st_ok] at q
    intro v H' e' g' ok
    cases x with
    | dat d =>
      cases d with
      | list ds =>
        have q : PostS C W D _ (RS.of (setMany r1 is ds)) := q
        cases h2 : setMany r1 is ds with
        | none => rw [h2] at q; exact q.elim
        | some r2 =>
          rw [h2] at q
          have q : ∀ σ H, EOk C r2 σ H → Same _ (fz C r2 σ H) → D.nx σ H := q
          have ok : Rp (fz C r1 σ H') (.list ds) v := ok
          cases ok with
          | lst z1 z2 => exact ⟨_, _, rfl, .of (msk_same _ _ z1), by rw [← z2.length]; exact setMany_len h2, setMany_ok e' h2 z2 fun σ' e2 g2 => q σ' H' e2 (g'.trans g2)⟩
      | _ => exact q.elim
    | _ => exact q.elim
end
end Ap

end
section
/-! New lists that a slot owns; raising; a def's promise from its body. -/
namespace Ap
open PySem PySem.Spec PyProof.Rows L2

section
variable {G : Gx} {C : Fx} {W : WX} {F : Nat → FnS} {r r1 r2 : Env} {σ : St} {H H1 : Hp}
/-- a new list, locked -/
structure NewAt (C : Fx) (r : Env) (σ : St) (H : Hp) (D : Addr) (vs : List V) (ds : List Ap.D) : Prop where
  ok : EOk (C.lock D vs) r σ H
  h0 : C.H0 D = none
  os : ¬ C.os D
  bs : ∀ p ∈ C.bs, ¬ Own (C.bk p.1) C.H0 p.2 D
  at_ : H D = some (.lst vs)
  rp : Rps (fz (C.lock D vs) r σ H) ds vs
def PostN (C : Fx) (W : WX) (r : Env) (σ : St) (H : Hp) (Q : VK) : R Vl → Prop
  | .ok (.dat (.list ds)) r' => ∀ D vs H', NewAt C r' σ H' D vs ds → Same (fz C r σ H) (fz (C.lock D vs) r' σ H') → Q (.ref D) H'
  | .ok _ _ => False
  | .exc c r' => ∀ H', EOk C r' σ H' → W (.ref (C.ca c)) none σ H'
  | .bad => False
def tNew (G : Gx) (F : Nat → FnS) (W : WX) (e : Ex) : TE := fun σ H Q => ∃ C : Fx, C.G = G ∧ ∃ r, EOk C r σ H ∧ PostN C W r σ H Q (ev F e r)
theorem NewAt.mk' {p : Addr} {vs : List V} {ds : List Ap.D} (e : EOk C r σ H) (hp : H p = none) (rp : Rps (fz C r σ H) ds vs) : NewAt C r σ (upd H p (.lst vs)) p vs ds ∧ Same (fz C r σ H) (fz (C.lock p vs) r σ (upd H p (.lst vs))) := by
  have hz : fz C r σ H p = none := by
    cases q : fz C r σ H p with
    | none => rfl
    | some o => rw [(msk_some.mp q).2] at hp; cases hp
  have e1 := e.locked hp
  obtain ⟨e2, g2⟩ := e1.relock (y := .lst vs) (e.nobs hp)
  rw [upd_upd] at e2 g2
  have g : Same (fz C r σ H) (fz (C.lock p vs) r σ (upd H p (.lst vs))) := lock_fz e hp
  refine ⟨⟨e2, e.h0 hp, fun z => ?_, e.nobs hp, upd_same, rp.mono g⟩, g⟩
  obtain ⟨o, ho⟩ := e.live p z
  rw [hp] at ho
  cases ho
theorem rn_lst {es : List Ex} {Q : VK} (q : tNew G F W (.lst es) σ H Q) : tLst (tEvs G F W es) σ H Q := by
  obtain ⟨C, rfl, r, e, q⟩ := q
  rw [ev] at q
  refine ⟨C, rfl, r, e, ?_⟩
  cases h1 : evs F es r with
  | bad => rw [h1] at q; exact q.elim
  | exc c r1 => rw [h1] at q; exact q
  | ok vs r1 =>
    rw [h1, R.bind_ok] at q
    intro xs H1 e1 g1 v1
    cases h2 : asDats r1 vs with
    | none => rw [h2] at q; exact q.elim
    | some ds =>
      rw [h2, R.of_some, R.bind_ok] at q
      have rp := v1.rps e1 h2
      split at q
      · rename_i hl
        refine ⟨by rw [← rp.length, ← lim_eq]; exact hl, fun p hp => ?_⟩
        obtain ⟨n, g⟩ := NewAt.mk' e1 hp rp
        exact q _ _ _ n (g1.trans g)
      · exact q.elim
theorem rn_listOf {e : Ex} {Q : VK} (q : tNew G F W (.prim .listOf [e]) σ H Q) : tCB (fun xs H Q => ∃ p ys, xs = [.ref p] ∧ (SqL G.K H p ys ∨ SqT G.K H p ys) ∧ ∀ l, H l = none → Q (.ref l) (upd H l (.lst ys))) (tEvs G F W [e]) σ H Q := by
  obtain ⟨C, rfl, r, ek, q⟩ := q
  rw [ev_prim] at q
  refine ⟨C, rfl, r, ek, ?_⟩
  cases h1 : evs F [e] r with
  | bad => rw [h1] at q; exact q.elim
  | exc c r1 => rw [h1] at q; exact q
  | ok vs r1 =>
    rw [h1, R.bind_ok] at q
    intro xs H1 e1 g1 v1
    unfold primR at q
    cases h2 : views r1 vs with
    | none => rw [h2] at q; exact q.elim
    | some ds =>
      rw [h2, R.of_some, R.bind_ok] at q
      have od := VlsOk.ods e1 v1 h2
      cases h3 : Ap.prim .listOf ds with
      | none => rw [h3] at q; exact q.elim
      | some d =>
        rw [h3, R.of_some, R.bind_ok] at q
        match ds, xs, od, h3 with
        | [.list a], [x], .cons h .nil, h3 =>
          cases h3
          obtain ⟨p, us, rfl, z2, z3⟩ := h.list
          refine ⟨p, us, rfl, .inl (.of z2), fun l hl => ?_⟩
          obtain ⟨n, g⟩ := NewAt.mk' e1 hl z3
          exact q _ _ _ n (g1.trans g)
        | [.tuple a], [x], .cons h .nil, h3 =>
          cases h3
          obtain ⟨p, us, rfl, z2, z3⟩ := h.tuple
          refine ⟨p, us, rfl, .inr z2.at, fun l hl => ?_⟩
          obtain ⟨n, g⟩ := NewAt.mk' e1 hl z3
          exact q _ _ _ n (g1.trans g)
theorem rn_lc {elt : Ex} {tg : Tg} {it : Ap.It} {cond : List Ex} {Q : VK} (q : tNew G F W (.lc elt tg it cond) σ H Q) : tLc (tIt G F W it) (gOf G.K tg) (tCond G F cond) (tEv G F Wf elt) tg.slots σ H Q := by
  obtain ⟨C, rfl, r, e, q⟩ := q
  rw [ev] at q
  refine ⟨C, rfl, r, e, ?_⟩
  cases h1 : evIt F it r with
  | bad => rw [h1] at q; exact q.elim
  | exc c r1 => rw [h1] at q; exact q
  | ok ds r1 =>
    rw [h1, Ap.R.bind_ok] at q
    intro J H1 e1 g1 fd hb D hD
    split at q
    · rename_i hpl
      change PostN C W r σ H Q ((noExc (lcGo (lcF F elt tg cond) ds [] r1)).bind fun ys r2 => .ok (.dat (.list ys)) (backE r1 r2 tg.slots)) at q
      cases h2 : lcGo (lcF F elt tg cond) ds [] r1 with
      | bad => rw [h2] at q; exact q.elim
      | exc c r => rw [h2] at q; exact q.elim
      | ok ys p' =>
        rw [h2] at q
        refine lc_run e1 fd hb hD hpl h2 fun vs H2 e2 hd rp sm => ?_
        refine q D vs H2 ⟨e2, e1.h0 hD, fun z => ?_, e1.nobs hD, hd, rp⟩ (g1.trans sm)
        obtain ⟨o, ho⟩ := e1.live D z
        rw [hD] at ho
        cases ho
    · exact q.elim
theorem rn_ite {a b c : Ex} {Q : VK} (q : tNew G F W (.ite c a b) σ H Q) : tIf (tEvT G F W c) (tNew G F W a) (tNew G F W b) σ H Q := by
  obtain ⟨C, rfl, r, e, q⟩ := q
  rw [ev] at q
  refine ⟨C, rfl, r, e, ?_⟩
  cases h1 : ev F c r with
  | bad => rw [h1] at q; exact q.elim
  | exc c r1 => rw [h1] at q; exact q
  | ok x r1 =>
    rw [h1, R.bind_ok] at q
    show PostT C W r σ H _ (asBool x r1)
    unfold asBool at q ⊢
    split at q
    · rename_i b
      intro H1 e1 g1
      have after : ∀ z, PostN C W r σ H Q z → PostN C W r1 σ H1 Q z := fun z q => by
        cases z with
        | bad => exact q
        | exc c r2 => exact q
        | ok x r2 =>
          cases x with
          | dat d =>
            cases d with
            | list ds => exact fun D vs H' n g => q D vs H' n (g1.trans g)
            | _ => exact q
          | _ => exact q
      cases b with
      | true => exact ⟨C, rfl, r1, e1, after _ q⟩
      | false => exact ⟨C, rfl, r1, e1, after _ q⟩
    · exact q.elim
/-- a slot takes the new list -/
theorem NewAt.adopt {i : Nat} {D : Addr} {vs : List V} {ds : List Ap.D} (n : NewAt C r σ H D vs ds) (nb : isBor r[i]? = false) :
    EOk C (r.set i (some (.own (.lst ds)))) (σ.set i (some (.ref D))) H ∧ Same (fz (C.lock D vs) r σ H) (fz C (r.set i (some (.own (.lst ds)))) (σ.set i (some (.ref D))) H) := by
  obtain ⟨e, h0, hos, hbs, hv, rp⟩ := n
  exact EOk.adoptG (C' := C.lock D vs) (P := fun b => b = D) rfl (fun _ => Iff.rfl) rfl rfl (lock_same h0) (fun p hp b => own_lock (nobs_ne hbs p hp)) (fun b z => by subst z; exact ⟨h0, hos, hbs⟩) e nb (fun b w => own_pl.mp w) ⟨vs, hv, rp⟩
theorem rs_new {i : Nat} {e : Ex} {D : Ends} (q : tRun G F W (.new i e) D σ H) : tAsg (tNew G F W e) (gName i) D σ H := by
  obtain ⟨C, rfl, r, ek, q⟩ := q
  rw [run] at q
  refine ⟨C, rfl, r, ek, ?_⟩
  cases h : ev F e r with
  | bad => rw [h] at q; exact q.elim
  | exc c r1 => rw [h] at q; exact fun H' e' => q σ H' e'
  | ok x r1 =>
    rw [h, R.st_ok] at q
    cases x with
    | dat d =>
      cases d with
      | list ds =>
        intro A vs H' n g
        have q : PostS C W D (fz C r σ H) (RS.of (setS r1 i (.own (.lst ds)))) := q
        unfold setS at q
        split at q
        · exact q.elim
        · rename_i nb
          obtain ⟨z1, z2⟩ := n.adopt (by simpa using nb)
          exact q _ H' z1 (g.trans z2)
      | _ => exact q.elim
    | _ => exact q.elim
/-! ### a, b = e1, e2 -/
def tX (G : Gx) (F : Nat → FnS) (W : WX) : Bool → Ex → TE
  | true, e => tNew G F W e
  | false, e => tEv G F W e
/-- what a slot is to hold -/
def Held (C C' : Fx) (r : Env) (σ : St) (H : Hp) (o : Bool) (d : Ap.D) (v : V) : Prop := match o with
  | true => ∃ D vs ds, v = .ref D ∧ d = .list ds ∧ C' = C.lock D vs ∧ NewAt C r σ H D vs ds
  | false => C' = C ∧ Rp (fz C r σ H) d v
theorem Held.grow {C C' : Fx} {r r' : Env} {H H' : Hp} {o : Bool} {d : Ap.D} {v : V} (h : Held C C' r σ H o d v) (e : EOk C' r' σ H') (g : Same (fz C' r σ H) (fz C' r' σ H')) : Held C C' r' σ H' o d v := by
  cases o with
  | true =>
    obtain ⟨D, vs, ds, rfl, rfl, rfl, n⟩ := h
    exact ⟨D, vs, ds, rfl, rfl, rfl, e, n.h0, n.os, n.bs, e.base D _ (show (upd C.H0 D (.lst vs)) D = _ from upd_same) (lock_nobs n.bs), n.rp.mono g⟩
  | false =>
    obtain ⟨rfl, rp⟩ := h
    exact ⟨rfl, rp.mono g⟩
/-- a slot is set to what was held -/
theorem Held.put {C C' : Fx} {r r3 : Env} {H : Hp} {o : Bool} {d : Ap.D} {v : V} {i : Nat} (h : Held C C' r σ H o d v) (e : EOk C' r σ H) (q : parOne r i o (.dat d) = some r3) :
    EOk C r3 (σ.set i (some v)) H ∧ Same (fz C' r σ H) (fz C r3 (σ.set i (some v)) H) := by
  cases o with
  | true =>
    obtain ⟨D, vs, ds, rfl, rfl, rfl, n⟩ := h
    have q : setS r i (.own (.lst ds)) = some r3 := q
    unfold setS at q
    split at q
    · cases q
    · rename_i nb
      cases q
      exact n.adopt (by simpa using nb)
  | false =>
    obtain ⟨rfl, rp⟩ := h
    have q : setS r i (.dat d) = some r3 := q
    exact setS_ok e q rp
theorem parOne_get {r r3 : Env} {i k : Nat} {o : Bool} {v : Vl} (q : parOne r i o v = some r3) (h : k ≠ i) : r3[k]? = r[k]? := by
  unfold parOne at q
  split at q
  · split at q
    · obtain ⟨m, h1, h2⟩ := Option.bind_eq_some_iff.mp q
      unfold setS at h2
      split at h2
      · cases h2
      · cases h2
        rw [set_get, if_neg (fun z => h z.1)]
    · cases q
  · split at q
    · unfold setS at q
      split at q
      · cases q
      · cases q
        rw [set_get, if_neg (fun z => h z.1)]
    · cases q
theorem parOne_dat {r r3 : Env} {i : Nat} {o : Bool} {v : Vl} (q : parOne r i o v = some r3) : ∃ d, v = .dat d := by
  unfold parOne at q
  split at q
  · split at q
    · exact ⟨_, rfl⟩
    · cases q
  · split at q
    · exact ⟨_, rfl⟩
    · cases q
theorem parOne_swap {r r3 r4 : Env} {i j : Nat} {oi oj : Bool} {v w : Vl} (hij : i ≠ j) (q : parOne r i oi v = some r3) (q2 : parOne r3 j oj w = some r4) : ∃ r5, parOne r j oj w = some r5 ∧ parOne r5 i oi v = some r4 := by
  unfold parOne setS at q q2 ⊢
  cases v with
  | dat d =>
    cases w with
    | dat e =>
      cases oi <;> cases oj <;> simp only [Bool.false_eq_true, if_false, if_true, Option.bind_eq_some_iff, Option.ite_none_left_eq_some, Option.some.injEq] at q q2 ⊢
      · obtain ⟨h1, rfl⟩ := q
        obtain ⟨h2, rfl⟩ := q2
        rw [set_get, if_neg (fun z => hij z.1.symm)] at h2
        refine ⟨_, ⟨h2, rfl⟩, ?_, List.set_comm _ _ (Ne.symm hij)⟩
        rw [set_get, if_neg (fun z => hij z.1)]
        exact h1
      · obtain ⟨h1, rfl⟩ := q
        obtain ⟨m, hm, h2, rfl⟩ := q2
        rw [set_get, if_neg (fun z => hij z.1.symm)] at h2
        refine ⟨_, ⟨m, hm, h2, rfl⟩, ?_, List.set_comm _ _ (Ne.symm hij)⟩
        rw [set_get, if_neg (fun z => hij z.1)]
        exact h1
      · obtain ⟨m, hm, h1, rfl⟩ := q
        obtain ⟨h2, rfl⟩ := q2
        rw [set_get, if_neg (fun z => hij z.1.symm)] at h2
        refine ⟨_, ⟨h2, rfl⟩, m, hm, ?_, List.set_comm _ _ (Ne.symm hij)⟩
        rw [set_get, if_neg (fun z => hij z.1)]
        exact h1
      · obtain ⟨m, hm, h1, rfl⟩ := q
        obtain ⟨m2, hm2, h2, rfl⟩ := q2
        rw [set_get, if_neg (fun z => hij z.1.symm)] at h2
        refine ⟨_, ⟨m2, hm2, h2, rfl⟩, m, hm, ?_, List.set_comm _ _ (Ne.symm hij)⟩
        rw [set_get, if_neg (fun z => hij z.1)]
        exact h1
    | _ => cases oj <;> cases q2
  | _ => cases oi <;> cases q
/-- an expression, owned or not -/
theorem held_of {o : Bool} {e : Ex} {Q : VK} (ek : EOk C r σ H) (hbad : ev F e r ≠ .bad) (hexc : ∀ c r1, ev F e r = .exc c r1 → ∀ H', EOk C r1 σ H' → W (.ref (C.ca c)) none σ H')
    (hd : ∀ v r1, ev F e r = .ok v r1 → ∃ d, v = .dat d ∧ (o = true → ∃ ds, d = .list ds))
    (k : ∀ d r1, ev F e r = .ok (.dat d) r1 → ∀ C' v H', Held C C' r1 σ H' o d v → EOk C' r1 σ H' → Same (fz C r σ H) (fz C' r1 σ H') → Q v H') : tX C.G F W o e σ H Q := by
  cases o with
  | true =>
    refine ⟨C, rfl, r, ek, ?_⟩
    cases h : ev F e r with
    | bad => exact absurd h hbad
    | exc c r1 => exact hexc c r1 h
    | ok v r1 =>
      obtain ⟨d, rfl, h2⟩ := hd v r1 h
      obtain ⟨ds, rfl⟩ := h2 rfl
      exact fun D vs H' n g => k _ r1 h (C.lock D vs) _ H' ⟨D, vs, ds, rfl, rfl, rfl, n⟩ n.ok g
  | false =>
    refine ⟨C, rfl, r, ek, ?_⟩
    cases h : ev F e r with
    | bad => exact absurd h hbad
    | exc c r1 => exact hexc c r1 h
    | ok v r1 =>
      obtain ⟨d, rfl, _⟩ := hd v r1 h
      exact fun v H' e' g ok => k _ r1 h C v H' ⟨rfl, ok⟩ e' g
theorem parOne_list {r r3 : Env} {i : Nat} {d : Ap.D} (q : parOne r i true (.dat d) = some r3) : ∃ ds, d = .list ds := by
  cases d with
  | list ds => exact ⟨ds, rfl⟩
  | _ => cases q
theorem shp_ok {o : Bool} {v : Vl} (h : shp o v = true) : ∃ d, v = .dat d ∧ (o = true → ∃ ds, d = .list ds) := by
  unfold shp at h
  split at h
  · exact ⟨_, rfl, fun _ => ⟨_, rfl⟩⟩
  · exact ⟨_, rfl, fun z => by cases z⟩
  · cases h
theorem rs_par {i j : Nat} {oi oj : Bool} {a b : Ex} {D : Ends} (hij : i ≠ j) (q : tRun G F W (.par i j oi oj a b) D σ H) : tPar i j (tCons (tX G F W oi a) (tCons (tX G F W oj b) tNil)) D σ H := by
  obtain ⟨C, rfl, r, ek, q⟩ := q
  rw [run] at q
  refine held_of ek (fun h => by rw [h] at q; exact q) (fun c r1 h H' e' => by rw [h] at q; exact q σ H' e') (fun va r1 h => ?_) (fun d r1 h C' v H1 hv e1 g1 => ?_)
  · rw [h, R.st_ok] at q
    split at q
    · rename_i hs
      exact shp_ok hs
    · exact q.elim
  · rw [h, R.st_ok] at q
    split at q
    · have hG : C.G = C'.G := by
        cases oi with
        | true => obtain ⟨D, vs, ds, _, _, rfl, _⟩ := hv; rfl
        | false => obtain ⟨rfl, _⟩ := hv; rfl
      have un : ∀ rr H2, EOk C' rr σ H2 → EOk C rr σ H2 := fun rr H2 e2 => by
        cases oi with
        | true => obtain ⟨D, vs, ds, _, _, rfl, n⟩ := hv; exact (e2.unlock n.h0 n.bs).1
        | false => obtain ⟨rfl, _⟩ := hv; exact e2
      rw [hG]
      refine held_of e1 (fun h => by rw [h] at q; exact q) (fun c r2 h H' e' => by rw [h] at q; show W (.ref (C'.G.ca c)) none σ H'; rw [← hG]; exact q σ H' (un r2 H' e')) (fun vb r2 h => ?_) (fun d2 r2 h C2 w H2 hw e2 g2 => ?_)
      · rw [h, R.st_ok] at q
        split at q
        · rename_i hs
          exact shp_ok hs
        · exact q.elim
      · rw [h, R.st_ok] at q
        split at q
        · cases h3 : (parOne r2 i oi (.dat d)).bind fun r3 => parOne r3 j oj (.dat d2) with
          | none => rw [h3] at q; exact q.elim
          | some r4 =>
            rw [h3] at q
            obtain ⟨r3, z1, z2⟩ := Option.bind_eq_some_iff.mp h3
            obtain ⟨r5, y1, y2⟩ := parOne_swap hij z1 z2
            obtain ⟨e5, g5⟩ := hw.put e2 y1
            -- the first one, still held
            have hv2 : Held C C' r5 (σ.set j (some w)) H2 oi d v := by
              cases oi with
              | true =>
                obtain ⟨D, vs, ds, rfl, rfl, rfl, n⟩ := hv
                have e6 : EOk C2 r2 σ H2 := e2
                refine ⟨D, vs, ds, rfl, rfl, rfl, e5, n.h0, n.os, n.bs, e5.base D _ (show (upd C.H0 D (.lst vs)) D = _ from upd_same) (lock_nobs n.bs), (n.rp.mono g2).mono g5⟩
              | false =>
                obtain ⟨rfl, rp⟩ := hv
                exact ⟨rfl, (rp.mono g2).mono g5⟩
            obtain ⟨e7, g7⟩ := hv2.put e5 y2
            refine ⟨v, w, rfl, ?_⟩
            rw [List.set_comm _ _ hij]
            exact q _ H2 e7 (((g1.trans g2).trans g5).trans g7)
        · exact q.elim
    · exact q.elim
theorem dat_st {α : Type} {v : Vl} {r1 : Env} {C : Fx} {D : Ends} {F0 : Hp} {f : Ap.D → Env → RS} (q : PostS C W D F0 ((asDat v r1).st f)) : ∃ d, v = .dat d := by
  cases v with
  | dat d => exact ⟨d, rfl⟩
  | own i => exact False.elim q
  | fn i => exact False.elim q
  | scr i => exact False.elim q
theorem rs_par3 {i j l : Nat} {a b c : Ex} {D : Ends} (q : tRun G F W (.par3 i j l a b c) D σ H) : tPar3 i j l (tCons (tEv G F W a) (tCons (tEv G F W b) (tCons (tEv G F W c) tNil))) D σ H := by
  obtain ⟨C, rfl, r, ek, q⟩ := q
  rw [run] at q
  refine held_of (o := false) ek (fun h => by rw [h] at q; exact q) (fun c r1 h H' e' => by rw [h] at q; exact q σ H' e') (fun va r1 h => ?_) (fun d1 r1 h C' v H1 hv e1 g1 => ?_)
  · rw [h, R.st_ok] at q
    obtain ⟨d, rfl⟩ := dat_st (α := Unit) q
    exact ⟨d, rfl, fun z => by cases z⟩
  obtain ⟨rfl, rp1⟩ := hv
  rw [h, R.st_ok] at q
  have q : PostS C' W D _ ((ev F b r1).st _) := q
  refine held_of (o := false) e1 (fun h => by rw [h] at q; exact q) (fun c r1 h H' e' => by rw [h] at q; exact q σ H' e') (fun va r1 h => ?_) (fun d2 r2 h2 C2 w H2 hw e2 g2 => ?_)
  · rw [h, R.st_ok] at q
    obtain ⟨d, rfl⟩ := dat_st (α := Unit) q
    exact ⟨d, rfl, fun z => by cases z⟩
  obtain ⟨rfl, rp2⟩ := hw
  rw [h2, R.st_ok] at q
  have q : PostS C2 W D _ ((ev F c r2).st _) := q
  refine held_of (o := false) e2 (fun h => by rw [h] at q; exact q) (fun c r1 h H' e' => by rw [h] at q; exact q σ H' e') (fun va r1 h => ?_) (fun d3 r3 h3 C3 u H3 hu e3 g3 => ?_)
  · rw [h, R.st_ok] at q
    obtain ⟨d, rfl⟩ := dat_st (α := Unit) q
    exact ⟨d, rfl, fun z => by cases z⟩
  obtain ⟨rfl, rp3⟩ := hu
  rw [h3, R.st_ok] at q
  have q : PostS C3 W D _ (RS.of ((setS r3 i (.dat d1)).bind fun r4 => (setS r4 j (.dat d2)).bind fun r5 => setS r5 l (.dat d3))) := q
  cases y1 : setS r3 i (.dat d1) with
  | none => rw [y1] at q; exact False.elim q
  | some r4 =>
    rw [y1] at q
    cases y2 : setS r4 j (.dat d2) with
    | none => rw [Option.bind_some, y2] at q; exact False.elim q
    | some r5 =>
      rw [Option.bind_some, y2] at q
      cases y3 : setS r5 l (.dat d3) with
      | none => rw [Option.bind_some, y3] at q; exact False.elim q
      | some r6 =>
        rw [Option.bind_some, y3] at q
        obtain ⟨e4, k4⟩ := setS_ok e3 y1 ((rp1.mono g2).mono g3)
        obtain ⟨e5, k5⟩ := setS_ok e4 y2 ((rp2.mono g3).mono k4)
        obtain ⟨e6, k6⟩ := setS_ok e5 y3 ((rp3.mono k4).mono k5)
        exact ⟨v, w, u, rfl, q _ H3 e6 (((((g1.trans g2).trans g3).trans k4).trans k5).trans k6)⟩
/-! ### raise -/
theorem rs_raise {c : Nat} {D : Ends} (q : tRun G F W (.raise c) D σ H) : W (.ref (G.ca c)) none σ H := by
  obtain ⟨C, rfl, r, ek, q⟩ := q
  rw [run] at q
  exact q σ H ek
/-! ### a def -/
theorem borAt_of {as : List Slot} {i : Nat} {m : MO} (h : as[i]? = some (.bor m)) (n : Nat) : (as.map some ++ List.replicate n (none : Option Slot))[i]? = some (some (.bor m)) := by
  have hl : i < as.length := (List.getElem?_eq_some_iff.mp h).1
  rw [List.getElem?_append_left (by simpa using hl), List.getElem?_map, h]
  rfl
theorem getS {as : List Slot} {n i : Nat} {s : Slot} (h : (as.map some ++ List.replicate n (none : Option Slot))[i]? = some (some s)) : as[i]? = some s := by
  by_cases hl : i < as.length
  · rw [List.getElem?_append_left (by simpa using hl), List.getElem?_map] at h
    obtain ⟨x, h1, h2⟩ := Option.map_eq_some_iff.mp h
    cases h2
    exact h1
  · rw [List.getElem?_append_right (by simpa using hl)] at h
    simp [List.getElem?_replicate] at h
theorem getσ {xs : List V} {n i : Nat} {v : V} (h : xs[i]? = some v) : (xs.map some ++ List.replicate n (none : Option V))[i]? = some (some v) := by
  have hl : i < xs.length := (List.getElem?_eq_some_iff.mp h).1
  rw [List.getElem?_append_left (by simpa using hl), List.getElem?_map, h]
  rfl
/-- the borrowed arguments' kinds -/
def borKd (as : List Slot) (i : Nat) : Kd := kdS (as[i]?.map some)
/-- the borrowed arguments' places -/
def borIx (as : List Slot) (xs : List V) : List (Nat × Addr) := (List.range as.length).filterMap fun (i : Nat) => match as[i]?, xs[i]? with
  | some (Slot.bor _), some (V.ref a) => some (i, a)
  | _, _ => none
theorem mem_borIx {as : List Slot} {xs : List V} {p : Nat × Addr} : p ∈ borIx as xs ↔ ∃ m, as[p.1]? = some (.bor m) ∧ xs[p.1]? = some (.ref p.2) := by
  unfold borIx
  rw [List.mem_filterMap]
  constructor
  · rintro ⟨i, hi, h⟩
    split at h
    · rename_i m a h1 h2
      cases h
      exact ⟨m, h1, h2⟩
    · cases h
  · rintro ⟨m, h1, h2⟩
    refine ⟨p.1, List.mem_range.mpr (List.getElem?_eq_some_iff.mp h1).1, ?_⟩
    rw [h1, h2]
theorem start_ok {os : Addr → Prop} {as : List Slot} {xs : List V} {n : Nat} (a : ArgsOk G.K G.fa os H as xs) (n2 : Nat) (hn : n2 = n) :
    EOk { G := G, os := os, H0 := H, bs := borIx as xs, bk := borKd as } (as.map some ++ List.replicate n none) (xs.map some ++ List.replicate n2 none) H := by
  subst hn
  have mu : ∀ i b, MutAt H (as.map some ++ List.replicate n2 none) (xs.map some ++ List.replicate n2 none) i b → ∃ m x, as[i]? = some (.bor m) ∧ xs[i]? = some (.ref x) ∧ Own m.kd H x b := fun i b ⟨m1, x, m2, m3⟩ => by
    cases h : (as.map some ++ List.replicate n2 (none : Option Slot))[i]? with
    | none => rw [h] at m1; cases m1
    | some s =>
      cases s with
      | none => rw [h] at m1; cases m1
      | some s =>
        have h1 := getS h
        rw [h] at m1 m3
        obtain ⟨v, h2, _⟩ := a.slot i s h1
        rw [getσ h2] at m2
        cases m2
        cases s with
        | bor m => exact ⟨m, x, h1, h2, m3⟩
        | own o => exact absurd h1 (a.noown i o)
        | _ => cases m1
  have mk : ∀ b, Msk H os (as.map some ++ List.replicate n2 none) (xs.map some ++ List.replicate n2 none) b → os b := fun b z => by
    rcases z with z | ⟨i, z⟩
    · exact z
    · obtain ⟨m, x, h1, h2, h3⟩ := mu i b z
      exact a.bor i m x b h1 h2 h3
  have g : Same (msk H os) (msk H (Msk H os (as.map some ++ List.replicate n2 none) (xs.map some ++ List.replicate n2 none))) := msk_le mk
  refine ⟨by simp [a.len], fun i s q => ?_, fun i j b z1 z2 => ?_, a.live, fun _ _ q _ => q, fun i o b q1 q2 => ?_, fun i o b q1 q2 => ?_, fun p hp => ?_⟩
  · obtain ⟨v, h1, h2⟩ := a.slot i s (getS q)
    exact ⟨v, getσ h1, h2.mono g fun _ _ _ _ _ _ z => z⟩
  · obtain ⟨m, x, h1, h2, w⟩ := mu i b z1
    obtain ⟨m', x', h3, h4, w'⟩ := mu j b z2
    exact a.inj i j m m' x x' b h1 h3 h2 h4 w w'
  · exact absurd (getS q1) (a.noown i o)
  · have h1 := getS q1
    obtain ⟨v, h2, _⟩ := a.slot i _ h1
    rw [getσ h2] at q2
    cases q2
    exact mem_borIx.mpr ⟨o, h1, h2⟩
  · obtain ⟨m, h1, h2⟩ := mem_borIx.mp hp
    refine ⟨by rw [borAt_of h1]; rfl, getσ h2, ?_, fun b => Iff.rfl⟩
    rw [borAt_of h1]
    show _ = kdS (as[p.1]?.map some)
    rw [h1]
    rfl
/-- behind a def -/
theorem end_ok {os : Addr → Prop} {as : List Slot} {xs : List V} {H' : Hp} {r : Env} {σ : St} {m : Nat} (hm : as.length = m) (e : EOk { G := G, os := os, H0 := H, bs := borIx as xs, bk := borKd as } r σ H') : CPost (G.fa 900) os H as xs (outsOf m r) H' := by
  refine ⟨fun a o q n => e.base a o q fun p hp w => ?_, fun i mo a h1 h2 => ?_⟩
  · obtain ⟨mm, h1, h2⟩ := mem_borIx.mp hp
    have w : Own (kdS (as[p.1]?.map some)) H p.2 a := w
    rw [h1] at w
    exact n p.1 mm p.2 h1 h2 w
  · obtain ⟨z1, z2, z4, z3⟩ := e.bors (i, a) (mem_borIx.mpr ⟨mo, h1, h2⟩)
    have z4 : kdS r[i]? = kdS (as[i]?.map some) := z4
    have z3 : ∀ b, Own (kdS (as[i]?.map some)) H' a b ↔ Own (kdS (as[i]?.map some)) H a b := z3
    rw [h1] at z3 z4
    have z1 : isBor r[i]? = true := z1
    have z2 : σ[i]? = some (some (.ref a)) := z2
    cases q : r[i]? with
    | none => rw [q] at z1; cases z1
    | some s =>
      cases s with
      | none => rw [q] at z1; cases z1
      | some s =>
        rw [q] at z1
        cases s with
        | bor m' =>
          refine ⟨m', ?_, ?_, by rw [q] at z4; exact z4, z3⟩
          · unfold outsOf
            have hl : i < m := by rw [← hm]; exact (List.getElem?_eq_some_iff.mp h1).1
            rw [List.getElem?_map, List.getElem?_take, if_pos hl, q]
            rfl
          · obtain ⟨v, y1, b, rfl, y2⟩ := e.slot i _ q
            rw [z2] at y1
            cases y1
            exact y2.mono (msk_le fun a z => .inl z) fun _ _ _ z => z
        | _ => cases z1
end
end Ap

end
section
/-! The script: its length, its numbers, whether it is empty. -/
namespace Ap
open PySem PySem.Spec PyProof.Rows L2

section
variable {G : Gx} {C : Fx} {W : WX} {F : Nat → FnS} {r r1 r2 : Env} {σ : St} {H H1 : Hp} {Q : VK}
theorem scrAt_ok {i : Nat} {ns : List Int} (e : EOk C r σ H) (h : scrAt r i = some ns) : ∃ a, σ[i]? = some (some (.ref a)) ∧ SqL C.K H a (ns.map V.int) := by
  unfold scrAt at h
  split at h
  · rename_i ms hh
    cases h
    obtain ⟨v, h1, a, rfl, h2⟩ := e.slot i _ hh
    exact ⟨a, h1, (show Same (fz C r σ H) H from msk_same).seq h2⟩
  · cases h
theorem scrAt_fz {i : Nat} {ns : List Int} (e : EOk C r σ H) (h : scrAt r i = some ns) : ∃ a, σ[i]? = some (some (.ref a)) ∧ SqL C.K (fz C r σ H) a (ns.map V.int) := by
  unfold scrAt at h
  split at h
  · rename_i ms hh
    cases h
    obtain ⟨v, h1, a, rfl, h2⟩ := e.slot i _ hh
    exact ⟨a, h1, h2⟩
  · cases h
theorem rd_slen {i : Nat} (q : tEv G F W (.slen i) σ H Q) : tCB (fun xs H Q => ∃ x n, xs = [x] ∧ LenV G.K x H n ∧ Q (.int n) H) (tCons (tVar i) tNil) σ H Q := by
  obtain ⟨C, rfl, r, e, q⟩ := q
  rw [ev] at q
  cases h1 : scrAt r i with
  | none => rw [h1] at q; exact q.elim
  | some ns =>
    rw [h1, R.of_some, R.bind_ok] at q
    obtain ⟨a, h2, h3⟩ := scrAt_ok e h1
    refine ⟨_, h2, .ref a, ns.length, rfl, .inl ⟨_, h3, by simp⟩, ?_⟩
    exact q _ H e (Same.refl _) (.int _)
theorem rd_sidx {i : Nat} {x : Ex} (q : tEv G F W (.sidx i x) σ H Q) : tOp (rIx G.K) (tVar i) (tEv G F W x) σ H Q := by
  obtain ⟨C, rfl, r, e, q⟩ := q
  rw [ev] at q
  cases h1 : scrAt r i with
  | none => rw [h1] at q; exact q.elim
  | some ns =>
    rw [h1, R.of_some, R.bind_ok] at q
    obtain ⟨a, h2, h3⟩ := scrAt_fz e h1
    refine ⟨_, h2, C, rfl, r, e, ?_⟩
    cases h4 : ev F x r with
    | bad => rw [h4] at q; exact q.elim
    | exc c r1 => rw [h4] at q; exact q
    | ok v r1 =>
      rw [h4, R.bind_ok] at q
      intro y H1 e1 g1 v1
      unfold asDat at q
      split at q
      · rename_i d
        rw [R.bind_ok] at q
        cases h5 : scrIx ns d with
        | none => rw [h5] at q; exact q.elim
        | some k =>
          rw [h5, R.of_some, R.bind_ok] at q
          unfold scrIx at h5
          split at h5
          · rename_i j
            split at h5
            · rename_i hj
              have v1 : Rp (fz C r1 σ H1) (.int j) y := v1
              cases v1
              refine .inl ⟨a, _, j, .int k, rfl, rfl, (show Same (fz C r1 σ H1) H1 from msk_same).seq (g1.seq h3), ?_, q _ H1 e1 g1 (.int _)⟩
              have hl : j.toNat < ns.length := (List.getElem?_eq_some_iff.mp h5).1
              have z : ixN (ns.map V.int).length j = some j.toNat := by
                unfold ixN
                rw [if_pos hj, if_pos (by simp; omega)]
              unfold atI
              rw [z]
              simp [h5]
            · cases h5
          · cases h5
      · exact q.elim
theorem ints_dp {K : PySem.W.Frag} {H : Hp} : ∀ (ns : List Int), DpAll K H (ns.map V.int) (ns.map PyData.int)
  | [] => .nil
  | n :: ns => .cons (.int n) (ints_dp ns)
theorem ints_plain : ∀ (ns : List Int), PyData.plainAll (ns.map PyData.int) = true
  | [] => rfl
  | n :: ns => by simp [PyData.plainAll, PyData.plain, ints_plain ns]
theorem rd_snil {i : Nat} (q : tEv G F W (.snil i) σ H Q) : tOp (rEqP G.K) (tVar i) (tLst tNil) σ H Q := by
  obtain ⟨C, rfl, r, e, q⟩ := q
  rw [ev] at q
  cases h1 : scrAt r i with
  | none => rw [h1] at q; exact q.elim
  | some ns =>
    rw [h1, R.of_some, R.bind_ok] at q
    obtain ⟨a, h2, h3⟩ := scrAt_ok e h1
    refine ⟨_, h2, by decide, fun p hp => ?_⟩
    refine ⟨.list (ns.map .int), .list [], .lst ((show Same H (upd H p (.lst [])) from same_upd hp).seq h3) (ints_dp ns), .lst (.of upd_same) .nil, by simp only [PyData.plain]; exact ints_plain ns, rfl, ?_, ?_⟩
    · exact Nat.le_trans (Nat.min_le_right _ _) (by decide)
    · have : PyData.eqv (.list (ns.map .int)) (.list []) = ns.isEmpty := by cases ns <;> rfl
      rw [this]
      exact q _ _ (e.grown (same_upd hp)) (e.growS (same_upd hp)) (.bl _)
end
end Ap

end
section
/-! Dicts whose keys are tuples of ints, or ints. -/
namespace Ap
open PySem PySem.Spec PyProof.Rows L2

section
variable {F : Hp} {α β : Type} [DecidableEq α] [DecidableEq β] {f : α → β}
theorem Kvs.val (hf : ∀ a b, f a = f b → a = b) {kvs : List (α × D)} {ws : List (β × V)} (h : Kvs F f kvs ws) (k : α) : (valI kvs k = none ∧ valV ws (f k) = none) ∨ ∃ d v, valI kvs k = some d ∧ valV ws (f k) = some v ∧ Rp F d v := by
  induction h with
  | nil => exact .inl ⟨rfl, rfl⟩
  | @cons k' d v kvs ws rp t ih =>
    by_cases e : k' = k
    · subst e
      exact .inr ⟨d, v, by simp [valI], by simp [valV], rp⟩
    · have e2 : f k' ≠ f k := fun z => e (hf _ _ z)
      have e3 : valI ((k', d) :: kvs) k = valI kvs k := by simp [valI, e]
      have e4 : valV ((f k', v) :: ws) (f k) = valV ws (f k) := by simp [valV, e2]
      rw [e3, e4]
      exact ih
theorem Kvs.any (hf : ∀ a b, f a = f b → a = b) {kvs : List (α × D)} {ws : List (β × V)} (h : Kvs F f kvs ws) (k : α) : (kvs.any fun kv => decide (kv.1 = k)) = ws.any fun kv => decide (kv.1 = f k) := by
  induction h with
  | nil => rfl
  | @cons k' d v kvs ws rp t ih =>
    rw [List.any_cons, List.any_cons, ih]
    congr 1
    by_cases e : k' = k
    · simp [e]
    · have e2 : f k' ≠ f k := fun z => e (hf _ _ z)
      simp [e, e2]
theorem Kvs.put (hf : ∀ a b, f a = f b → a = b) {kvs : List (α × D)} {ws : List (β × V)} (h : Kvs F f kvs ws) (k : α) {d : D} {v : V} (rp : Rp F d v) : Kvs F f (putI kvs k d) (putK ws (f k) v) := by
  unfold putI putK
  rw [h.any hf k]
  split
  · rename_i hh
    clear hh
    induction h with
    | nil => exact .nil
    | @cons k' d' v' kvs ws rp' t ih =>
      rw [List.map_cons, List.map_cons]
      by_cases e : k' = k
      · subst e
        simp only [if_true]
        exact .cons rp ih
      · have e2 : f k' ≠ f k := fun z => e (hf _ _ z)
        simp only [if_neg e, if_neg e2]
        exact .cons rp' ih
  · rename_i hh
    clear hh
    induction h with
    | nil => exact .cons rp .nil
    | @cons k' d' v' kvs ws rp' t ih => exact .cons rp' ih
theorem Kvs.length {kvs : List (α × D)} {ws : List (β × V)} (h : Kvs F f kvs ws) : kvs.length = ws.length := by
  induction h with
  | nil => rfl
  | cons _ _ ih => simp [ih]
end
theorem keyT_inj (a b : List Int) (h : keyT a = keyT b) : a = b := by
  unfold keyT at h
  induction a generalizing b with
  | nil => cases b with
    | nil => rfl
    | cons y b => simp at h
  | cons x a ih =>
    cases b with
    | nil => simp at h
    | cons y b =>
      simp only [List.map_cons, List.cons.injEq, Sum.inl.injEq] at h
      rw [h.1, ih b h.2]
theorem inl_inj (a b : Int) (h : (Sum.inl a : Key) = Sum.inl b) : a = b := by simpa using h
theorem keyT_kV (k : List Int) : (keyT k).map kV = k.map V.int := by
  unfold keyT
  rw [List.map_map]
  rfl
section
variable {G : Gx} {C : Fx} {W : WX} {F : Nat → FnS} {r r1 r2 : Env} {σ : St} {H H1 : Hp} {Q : VK}
theorem dkey_at {Fh : Hp} {d : D} {y : V} {k : List Int} (rp : Rp Fh d y) (h : dkey d = some k) : ∃ b, y = .ref b ∧ Fh b = some (.tup ((keyT k).map kV)) := by
  unfold dkey at h
  split at h
  · cases rp with
    | tup h1 h2 =>
      rw [h2.ints h] at h1
      exact ⟨_, rfl, by rw [keyT_kV]; exact h1.pl (ints_pl _)⟩
  · cases h
theorem isDct_ok (e : EOk C r σ H) {i : Nat} (h : isDct (moOf r[i]?) = true) : ∃ o a, moOf r[i]? = some o ∧ σ[i]? = some (some (.ref a)) ∧ MoOk (C.fa 900) (fz C r σ H) H a o ∧ At r σ i a ∧ IsD H a := by
  unfold isDct at h
  split at h
  · rename_i kvs hm
    rcases moOf_some hm with z | z
    · obtain ⟨v, h1, a, rfl, ws, h2, h3⟩ := e.slot i _ z
      exact ⟨_, a, hm, h1, ⟨ws, h2, h3⟩, ⟨moOf_mut hm, h1⟩, .inr ⟨ws, .inl h2⟩⟩
    · obtain ⟨v, h1, a, rfl, ws, h2, h3⟩ := e.slot i _ z
      exact ⟨_, a, hm, h1, ⟨ws, h2, h3⟩, ⟨moOf_mut hm, h1⟩, .inr ⟨ws, .inl h2⟩⟩
  · rename_i kvs hm
    rcases moOf_some hm with z | z
    · obtain ⟨v, h1, a, rfl, ws, h2, h3⟩ := e.slot i _ z
      exact ⟨_, a, hm, h1, ⟨ws, h2, h3⟩, ⟨moOf_mut hm, h1⟩, .inl ⟨ws, .inl h2⟩⟩
    · obtain ⟨v, h1, a, rfl, ws, h2, h3⟩ := e.slot i _ z
      exact ⟨_, a, hm, h1, ⟨ws, h2, h3⟩, ⟨moOf_mut hm, h1⟩, .inl ⟨ws, .inl h2⟩⟩
  · cases h
theorem dict_slot (e : EOk C r σ H) {i : Nat} {o : MO} {a : Addr} (hm : moOf r[i]? = some o) (ha : σ[i]? = some (some (.ref a))) : MoOk (C.fa 900) (fz C r σ H) H a o ∧ At r σ i a := by
  rcases moOf_some hm with z | z
  · obtain ⟨v, h1, b, rfl, h2⟩ := e.slot i _ z
    rw [ha] at h1
    cases h1
    exact ⟨h2, moOf_mut hm, ha⟩
  · obtain ⟨v, h1, b, rfl, h2⟩ := e.slot i _ z
    rw [ha] at h1
    cases h1
    exact ⟨h2, moOf_mut hm, ha⟩
theorem dgetM_ok {o : MO} {kd : D} {od : Option D} {a rc : Addr} {y : V} {Fh : Hp} (sm : Same Fh H) (mo : MoOk rc Fh H a o) (h : dgetM o kd = some od) (rp : Rp Fh kd y) : ∃ ov, DGet H a y ov ∧ ((od = none ∧ ov = none) ∨ ∃ d v, od = some d ∧ ov = some v ∧ Rp Fh d v) := by
  unfold dgetM at h
  split at h
  · obtain ⟨k, h1, rfl⟩ := Option.map_eq_some_iff.mp h
    obtain ⟨b, rfl, h2⟩ := dkey_at rp h1
    obtain ⟨ws, h3, h4⟩ := mo
    refine ⟨valV ws (keyT k), .t h3 (sm _ _ h2), ?_⟩
    rcases h4.val keyT_inj k with ⟨e1, e2⟩ | ⟨d, v, e1, e2, e3⟩
    · exact .inl ⟨e1, e2⟩
    · exact .inr ⟨d, v, e1, e2, e3⟩
  · cases h
    cases rp
    obtain ⟨ws, h3, h4⟩ := mo
    refine ⟨_, .k (k := Sum.inl _) h3, ?_⟩
    rcases h4.val inl_inj _ with ⟨e1, e2⟩ | ⟨d, v, e1, e2, e3⟩
    · exact .inl ⟨e1, e2⟩
    · exact .inr ⟨d, v, e1, e2, e3⟩
  · cases h
theorem rd_dget {i : Nat} {k x : Ex} (q : tEv G F W (.dget i k x) σ H Q) : tDGet2 (tVar i) (tEv G F W k) (tEv G F W x) σ H Q := by
  obtain ⟨C, rfl, r, e, q⟩ := q
  rw [ev] at q
  split at q
  · rename_i hd
    obtain ⟨o, a, hm, ha, mo, mu, isd⟩ := isDct_ok e hd
    refine ⟨_, ha, a, rfl, isd, C, rfl, r, e, ?_⟩
    cases h1 : ev F k r with
    | bad => rw [h1] at q; exact q.elim
    | exc c r1 => rw [h1] at q; exact q
    | ok vk r1 =>
      rw [h1, R.bind_ok] at q
      intro y H1 e1 g1 v1
      unfold asDat at q
      split at q
      · rename_i kd
        rw [R.bind_ok] at q
        refine ⟨C, rfl, r1, e1, ?_⟩
        cases h2 : ev F x r1 with
        | bad => rw [h2] at q; exact q.elim
        | exc c r2 => rw [h2] at q; exact q
        | ok ve r2 =>
          rw [h2, R.bind_ok] at q
          intro z H2 e2 g2 v2
          split at q
          · rename_i ed
            rw [R.bind_ok] at q
            cases h3 : (moOf r2[i]?).bind (dgetM · kd) with
            | none => rw [h3] at q; exact q.elim
            | some od =>
              rw [h3, R.of_some, R.bind_ok] at q
              obtain ⟨o2, h4, h5⟩ := Option.bind_eq_some_iff.mp h3
              obtain ⟨mo2, _⟩ := dict_slot e2 h4 ha
              obtain ⟨ov, h6, h7⟩ := dgetM_ok msk_same mo2 h5 (Rp.mono g2 v1)
              refine ⟨ov, h6, ?_⟩
              rcases h7 with ⟨rfl, rfl⟩ | ⟨d, v, rfl, rfl, rp⟩
              · exact q z H2 e2 (g1.trans g2) v2
              · exact q v H2 e2 (g1.trans g2) rp
          · exact q.elim
      · exact q.elim
  · exact q.elim
theorem rd_didx {i : Nat} {k : Ex} (q : tEv G F W (.didx i k) σ H Q) : tDGet (tVar i) (tEv G F W k) σ H Q := by
  obtain ⟨C, rfl, r, e, q⟩ := q
  rw [ev] at q
  split at q
  · rename_i hd
    obtain ⟨o, a, hm, ha, mo, mu, isd⟩ := isDct_ok e hd
    refine ⟨_, ha, C, rfl, r, e, ?_⟩
    cases h1 : ev F k r with
    | bad => rw [h1] at q; exact q.elim
    | exc c r1 => rw [h1] at q; exact q
    | ok vk r1 =>
      rw [h1, R.bind_ok] at q
      intro y H1 e1 g1 v1
      unfold asDat at q
      split at q
      · rename_i kd
        rw [R.bind_ok] at q
        cases h3 : ((moOf r1[i]?).bind (dgetM · kd)).join with
        | none => rw [h3] at q; exact q.elim
        | some d =>
          rw [h3, R.of_some, R.bind_ok] at q
          have h3 := Option.join_eq_some_iff.mp h3
          obtain ⟨o2, h4, h5⟩ := Option.bind_eq_some_iff.mp h3
          obtain ⟨mo2, _⟩ := dict_slot e1 h4 ha
          obtain ⟨ov, h6, h7⟩ := dgetM_ok msk_same mo2 h5 v1
          rcases h7 with ⟨z, _⟩ | ⟨d', v, z, rfl, rp⟩
          · cases z
          · cases z
            exact ⟨a, v, rfl, h6, q v H1 e1 g1 rp⟩
      · exact q.elim
  · exact q.elim
end
section
variable {G : Gx} {C : Fx} {W : WX} {F : Nat → FnS} {r r1 r2 : Env} {σ : St} {H H1 : Hp} {D : Ends}
theorem rs_dput {i : Nat} {k x : Ex} (q : tRun G F W (.dput i k x) D σ H) : sDPut (tVar i) (tEv G F W k) (tEv G F W x) D σ H := by
  obtain ⟨C, rfl, r, ek, q⟩ := q
  rw [run] at q
  refine ⟨C, rfl, r, ek, ?_⟩
  cases h : ev F x r with
  | bad => rw [h] at q; exact q.elim
  | exc c r1 => rw [h] at q; exact fun H' e' => q σ H' e'
  | ok v0 r1 =>
    rw [h, R.st_ok] at q
    intro v H1 e1 g1 ok
    cases v0 with
    | dat d =>
      rw [asDat, R.st_ok] at q
      split at q
      · rename_i hd
        obtain ⟨o, a, hm, ha, mo, mu, isd⟩ := isDct_ok e1 hd
        refine ⟨_, ha, C, rfl, r1, e1, ?_⟩
        cases h4 : ev F k r1 with
        | bad => rw [h4] at q; exact q.elim
        | exc c r2 => rw [h4] at q; exact fun H' e' => q σ H' e'
        | ok y r2 =>
          rw [h4, R.st_ok] at q
          intro w H2 e2 g2 ok2
          cases y with
          | dat kd =>
            rw [asDat, R.st_ok] at q
            cases h5 : ((moOf r2[i]?).bind fun o => (dputM o kd d).map fun o' => putMo r2 i o') with
            | none => rw [h5] at q; exact q.elim
            | some r3 =>
              rw [h5] at q
              obtain ⟨o2, h6, h7⟩ := Option.bind_eq_some_iff.mp h5
              obtain ⟨o3, h8, rfl⟩ := Option.map_eq_some_iff.mp h7
              obtain ⟨mo2, mu2⟩ := dict_slot e2 h6 ha
              have rpv : Rp (fz C r2 σ H2) d v := Rp.mono g2 ok
              have ok2 : Rp (fz C r2 σ H2) kd w := ok2
              unfold dputM at h8
              split at h8
              · obtain ⟨key, h9, h10⟩ := Option.bind_eq_some_iff.mp h8
                split at h10
                · rename_i hl
                  cases h10
                  obtain ⟨b, rfl, h11⟩ := dkey_at ok2 h9
                  obtain ⟨ws, w1, w2⟩ := mo2
                  refine ⟨a, _, rfl, .t w1 (msk_same _ _ h11) (by rw [← w2.length, ← lim_eq]; exact hl), ?_⟩
                  obtain ⟨y1, y2⟩ := e2.changeM (o := .dct (putI _ key d)) (x := .dT (putK ws (keyT key) v)) mu2 rfl (moOf_kd h6) ⟨_, upd_same, w2.put keyT_inj key rpv⟩
                  exact q σ _ y1 ((g1.trans g2).trans y2)
                · cases h10
              · split at h8
                · rename_i hl
                  cases h8
                  rename_i _ kvs n _
                  cases ok2
                  obtain ⟨ws, w1, w2⟩ := mo2
                  refine ⟨a, _, rfl, .k (k := Sum.inl _) w1 (by rw [← w2.length, ← lim_eq]; exact hl), ?_⟩
                  obtain ⟨y1, y2⟩ := e2.changeM (o := .dci (putI kvs n d)) (x := .dK (putK ws (Sum.inl n) v)) mu2 rfl (moOf_kd h6) ⟨_, upd_same, w2.put inl_inj n rpv⟩
                  exact q σ _ y1 ((g1.trans g2).trans y2)
                · cases h8
              · cases h8
          | _ => exact q.elim
      · exact q.elim
    | _ => exact q.elim
/-- a new object, owned by a slot -/
theorem EOk.adoptO {i : Nat} {p : Addr} {x y : HO} {o : MO} (e : EOk (C.lockO p x) r σ H) (h0 : C.H0 p = none) (hos : ¬ C.os p) (hbs : ∀ q ∈ C.bs, ¬ Own (C.bk q.1) C.H0 q.2 p) (nb : isBor r[i]? = false) (ny : o.kd = .pl) (mo : MoOk (C.fa 900) (fz (C.lockO p x) r σ H) (upd H p y) p o) :
    EOk C (r.set i (some (.own o))) (σ.set i (some (.ref p))) (upd H p y) ∧ Same (fz (C.lockO p x) r σ H) (fz C (r.set i (some (.own o))) (σ.set i (some (.ref p))) (upd H p y)) := by
  obtain ⟨e, g0⟩ := e.relock (y := y) hbs
  have mo := mo.mono g0 fun _ _ _ z => z
  obtain ⟨z1, z2⟩ := EOk.adoptG (C := C) (C' := C.lockO p y) (P := fun b => b = p) rfl (fun _ => Iff.rfl) rfl rfl (lock_same h0) (fun p hp b => own_lock (nobs_ne hbs p hp)) (fun b z => by subst z; exact ⟨h0, hos, hbs⟩) e nb (fun b w => by rw [ny] at w; exact own_pl.mp w) mo
  exact ⟨z1, g0.trans z2⟩
theorem EOk.notOs (e : EOk C r σ H) {p : Addr} (h : H p = none) : ¬ C.os p := fun z => by
  obtain ⟨o, ho⟩ := e.live p z
  rw [h] at ho
  cases ho
theorem fz_none {p : Addr} (h : H p = none) : fz C r σ H p = none := by
  cases q : fz C r σ H p with
  | none => rfl
  | some o => rw [(msk_some.mp q).2] at h; cases h
theorem upd_twice {H : Hp} {p : Addr} {x y : HO} : upd (upd H p x) p y = upd H p y := upd_upd
def tNewD (b : Bool) : TE := if b then tDNewK else tDNewT
theorem rs_newD {i : Nat} {b : Bool} (q : tRun G F W (.newD i b) D σ H) : tAsg (tNewD b) (gName i) D σ H := by
  obtain ⟨C, rfl, r, ek, q⟩ := q
  rw [run] at q
  unfold setS at q
  split at q
  · exact q.elim
  · rename_i nb
    have key : ∀ (p : Addr) (x : HO) (o : MO), H p = none → o.kd = .pl → MoOk (C.fa 900) (fz (C.lockO p x) r σ (upd H p x)) (upd H p x) p o → (if b then (MO.dci []) else .dct []) = o → D.nx (σ.set i (some (.ref p))) (upd H p x) := fun p x o hp nx mo ho => by
      rw [ho] at q
      have e1 := ek.lockedO (x := x) hp
      have z := e1.adoptO (i := i) (y := x) (o := o) (ek.h0 hp) (ek.notOs hp) (ek.nobs hp) (by simpa using nb) nx (by rw [upd_twice]; exact mo)
      rw [upd_twice] at z
      exact q _ _ z.1 ((lock_fz ek hp).trans z.2)
    cases b with
    | true => exact fun p hp => key p (.dK []) (.dci []) hp rfl ⟨[], upd_same, .nil⟩ rfl
    | false => exact fun p hp => key p (.dT []) (.dct []) hp rfl ⟨[], upd_same, .nil⟩ rfl
/-! ### {k: e} with a tuple for a key -/
def tDisp1 (tk tv : TE) : TE := fun σ H Q => ∀ p, H p = none → tk σ (upd H p (.dT [])) fun x H1 => tv σ H1 fun y H2 => ∃ ks b, x = .ref b ∧ H2 b = some (.tup (List.map kV ks)) ∧ H2 p = some (.dT []) ∧ Q (.ref p) (upd H2 p (.dT [(ks, y)]))
theorem pe_disp1 {X : Cx} {k v : Expr} {tk tv : TE} {pos : Pos} (hu : X.A.units + 1 < cLine) (hk : PE X k tk) (hv : PE X v tv) : PE X (.Dict [some k] [v] pos) (tDisp1 tk tv) := by
  refine ⟨fun pins s σ H Q I q => ?_⟩
  have hn := I.hok.fresh (Nat.le_refl s.heap.objs.size)
  obtain ⟨nd, end_⟩ : ∃ nd : Obj, nd = { cls := .type "dict", data := .dict #[] } := ⟨_, rfl⟩
  have I1 := I.laid (a := s.heap.objs.size) (o := .dT []) (h' := s.heap.push { cls := .type "dict", data := .dict #[] }) (t' := s.toks) (fun _ _ q => Heap.get?_push_of_some _ q) (Nat.le_refl _) (dt_empty s.heap I.big)
  rw [arm_eval_Dict, zip_pairTrees [some k] [v] X.env pos rfl rfl, dictDisplay_pairs (pairTrees [some k] [v] X.env pos) (by simp [pairTrees]) (by simp [pairTrees])]
  refine wpAny_bind (wpAny_standAt (wpAny_bind ?_))
  unfold subDict
  refine wpAny_bind (wpAny_alloc ?_)
  refine wpAny_bind (wpAny_holding ?_)
  rw [if_pos (by simp [pairTrees])]
  refine wpAny_bind (pairTrees_cons_walk (thn (hk.run pins _ σ _ _ I1 (q _ hn)) fun u s1 ⟨x, H1, I2, rx, q1⟩ => thn (hv.run pins s1 σ H1 _ I2 q1) fun w2 s2 ⟨y, H2, I3, ry, ks, b, ex, eb, ep, q2⟩ => pairTrees_nil_walk ?_))
  subst ex
  cases (show u = Value.ref b from rx)
  refine wpAny_holding ?_
  obtain ⟨z, hd, xs, rel, dd⟩ := dt_of I3.hok ep
  cases rel
  rw [List.forIn_cons]
  refine wpAny_bind (wpAny_bind (wpAny_bind (wpAny_dictSet_heap (hsz := Nat.zero_le _) (show X.A.units < cLine by omega) (key_of I3.hok eb) dd fun h' dd' hs => ?_)))
  refine wpAny_pure (wpAny_pure (wpAny_pure (wpAny_pure (wpAny_pure ⟨.ref s.heap.objs.size, _, ?_, rfl, q2⟩))))
  obtain ⟨qo, es, ep2, hq, h2, h3, h4, _, h5⟩ := dd'
  refine d_write I3 (by rw [ep]; exact True.intro) hs ⟨qo, hq⟩ ⟨by show 1 ≤ sizeLine; decide, hd, [(ks, b, w2)], ?_, qo, es, ep2, hq, h2, h3, h4, h5⟩
  refine KT.keeps (H := H2) (Paired.cons ⟨rfl, eb, ry⟩ .nil) fun c ys ec => ?_
  rw [upd_ne (ne_of ec ep (fun z => nomatch z))]
  exact ec
/-- a slot takes the new dict -/
theorem rs_newD1 {i : Nat} {k x : Ex} (q : tRun G F W (.newD1 i k x) D σ H) : tAsg (tDisp1 (tEv G F W k) (tEv G F W x)) (gName i) D σ H := by
  obtain ⟨C, rfl, r, ek, q⟩ := q
  rw [run] at q
  intro p hp
  have eL := ek.lockedO (x := .dT []) hp
  have gL : Same (fz C r σ H) (fz (C.lockO p (.dT [])) r σ (upd H p (.dT []))) := lock_fz ek hp
  have h0 := ek.h0 hp
  have hos := ek.notOs hp
  have hbs := ek.nobs hp
  refine ⟨C.lockO p (.dT []), rfl, r, eL, ?_⟩
  cases h1 : ev F k r with
  | bad => rw [h1] at q; exact q.elim
  | exc c r1 => rw [h1] at q; exact fun H' e' => q σ H' (e'.unlock h0 hbs).1
  | ok vk r1 =>
    rw [h1, R.st_ok] at q
    intro y H1 e1 g1 v1
    cases vk with
    | dat kd =>
      rw [asDat, R.st_ok] at q
      refine ⟨C.lockO p (.dT []), rfl, r1, e1, ?_⟩
      cases h2 : ev F x r1 with
      | bad => rw [h2] at q; exact q.elim
      | exc c r2 => rw [h2] at q; exact fun H' e' => q σ H' (e'.unlock h0 hbs).1
      | ok ve r2 =>
        rw [h2, R.st_ok] at q
        intro z H2 e2 g2 v2
        cases ve with
        | dat d =>
          rw [asDat, R.st_ok] at q
          cases h3 : dkey kd with
          | none => rw [h3] at q; exact q.elim
          | some key =>
            rw [h3] at q
            have q : PostS C W D (fz C r σ H) (RS.of (setS r2 i (.own (.dct [(key, d)])))) := q
            unfold setS at q
            split at q
            · exact q.elim
            · rename_i nb
              have v1 : Rp (fz (C.lockO p (.dT [])) r1 σ H1) kd y := v1
              have v2 : Rp (fz (C.lockO p (.dT [])) r2 σ H2) d z := v2
              obtain ⟨b, rfl, h4⟩ := dkey_at (v1.mono g2) h3
              have hpp : H2 p = some (.dT []) := e2.base p _ (show (upd C.H0 p (.dT [])) p = _ from upd_same) (lock_nobs hbs)
              refine ⟨keyT key, b, rfl, msk_same _ _ h4, hpp, ?_⟩
              obtain ⟨y1, y2⟩ := e2.adoptO (i := i) (y := .dT [(keyT key, z)]) (o := .dct [(key, d)]) h0 hos hbs (by simpa using nb) rfl ⟨_, upd_same, .cons v2 .nil⟩
              exact q _ _ y1 (((gL.trans g1).trans g2).trans y2)
        | _ => exact q.elim
    | _ => exact q.elim
end
end Ap

end
section
/-! zip and enumerate over lists and tuples in any mix. -/
namespace Ap
open PySem PySem.Spec PyProof.Rows L2

/-- a list (true) or a tuple (false) -/
def Sq (K : PySem.W.Frag) (H : Hp) (k : Bool) (a : Addr) (xs : List V) : Prop := if k then SqL K H a xs else SqT K H a xs
def ItO (k : Bool) (h : Heap) (it l : Addr) (i : Nat) : Prop := if k then h.IsListIter it l i else h.IsTupleIter it l i
def SqO (k : Bool) (h : Heap) (l : Addr) (items : Array Value) : Prop := if k then h.IsList l items else h.IsTuple l items
def itObj (k : Bool) (l : Addr) : Obj := if k then { cls := .type "list_iterator", data := .fields #[.ref l, .int 0 0] } else { cls := .type "tuple_iterator", data := .fields #[.ref l, .int 0 0] }
theorem begins_sq (k : Bool) (l : Addr) (items : Array Value) : Begins (.ref l) (itObj k l) (fun h => SqO k h l items) := by
  cases k
  · exact begins_tuple l items
  · exact begins_list l items
theorem draws_sq {P : Program} {w : World} {A : Around} (k : Bool) (hh : A.handled = none) {it l : Addr} (hne : l ≠ it) (items : Array Value) : Draws P w A it [it, l] items.size (fun i v => items[i]? = some v) (fun i h => ItO k h it l i ∧ SqO k h l items) := by
  cases k
  · exact Draws.tuple hh it l hne items
  · exact Draws.list hh it l hne items
theorem ItO.of_obj {k : Bool} {h : Heap} {it l : Addr} (e : h.get? it = some (itObj k l)) : ItO k h it l 0 := by
  cases k
  · exact ⟨_, e, rfl, rfl⟩
  · exact ⟨_, e, rfl, rfl⟩
theorem ItO.at {k : Bool} {h h' : Heap} {it l : Addr} {i : Nat} (x : ItO k h it l i) (q : ∀ o, h.get? it = some o → h'.get? it = some o) : ItO k h' it l i := by
  cases k
  · exact Heap.IsTupleIter.at x q
  · exact Heap.IsListIter.at x q
theorem ItO.obj {k : Bool} {h : Heap} {it l : Addr} {i : Nat} (x : ItO k h it l i) : ∃ o, h.get? it = some o ∧ ∀ v, o.data ≠ .cell v := by
  cases k
  · obtain ⟨o, e, _, d⟩ := (x : h.IsTupleIter it l i)
    exact ⟨o, e, fun v q => by rw [d] at q; cases q⟩
  · obtain ⟨o, e, _, d⟩ := (x : h.IsListIter it l i)
    exact ⟨o, e, fun v q => by rw [d] at q; cases q⟩
section
variable {X : Cx} {pins : List (Addr × Obj)} {σ : L2.St} {H : Hp} {s : Shared} {k : Bool} {a : Addr} {xs ys : List V}
theorem inv_sq (I : Inv X pins σ H s) (h : Sq X.K H k a xs) : ∃ its : List Value, Vals xs its ∧ SqO k s.heap a its.toArray ∧ xs.length ≤ sizeLine ∧ a < s.heap.objs.size := by
  cases k
  · obtain ⟨its, r, p, z⟩ := I.tuple (show SqT X.K H a xs from h)
    obtain ⟨o, e, _⟩ := id p
    exact ⟨its, r, p, z, Heap.lt_size e⟩
  · obtain ⟨its, r, p, z⟩ := I.list (show SqL X.K H a xs from h)
    exact ⟨its, r, p.isList, z, p.lt⟩
theorem inv_sq_inj (I : Inv X pins σ H s) (h : Sq X.K H k a xs) (h' : Sq X.K H k a ys) : xs = ys := by
  cases k
  · exact I.tuple_inj (show SqT X.K H a xs from h) h'
  · exact I.list_inj (show SqL X.K H a xs from h) h'
end
theorem vals_len {xs : List V} {its : List Value} (r : Vals xs its) : its.toArray.size = xs.length := by
  have := r.length
  simp
  omega

/-! ### two -/
def Itz2 (K : PySem.W.Frag) (k1 k2 : Bool) (a b : Addr) : L2.It where
  go := fun i H => ∃ (xs ys : List V) (x y : V), Sq K H k1 a xs ∧ Sq K H k2 b ys ∧ xs[i]? = some x ∧ ys[i]? = some y
  yld := fun i H v H' => ∃ (T : Addr) (x y : V) (ob : Obj), ob.dict = none ∧ v = .ref T ∧ H T = none ∧ H' = upd H T (labT [x, y] ob) ∧ (∀ xs, Sq K H k1 a xs → xs[i]? = some x) ∧ ∀ ys, Sq K H k2 b ys → ys[i]? = some y
  stop := fun i H => ∃ xs ys : List V, Sq K H k1 a xs ∧ Sq K H k2 b ys ∧ i ≤ xs.length ∧ i ≤ ys.length ∧ (i = xs.length ∨ i = ys.length)
theorem turn_z2 {P : Program} {w : World} {K : PySem.W.Frag} {elts : List Expr} {kk : Nat} {tp : Pos} {k1 k2 : Bool} {a b z TI TO i1 i2 : Addr} (S : ZipSep2 z TI TO i1 i2 [i1, a] [i2, b]) (na : a ≠ i1) (nb : b ≠ i2) :
    Turn P w K (.Tuple elts kk tp) (Itz2 K k1 k2 a b) [z, TI, TO, i1, i2] z (fun i h => IsZip h z TI TO .none ∧ IsTupOf2 h TI (.ref i1) (.ref i2) ∧ (∃ x y, IsTupOf2 h TO x y) ∧ ItO k1 h i1 a i ∧ ItO k2 h i2 b i) where
  mem := List.mem_cons_self ..
  obj := fun i h st c hc => by
    obtain ⟨hz, hTI, ⟨x, y, hTO⟩, h1, h2⟩ := st
    simp only [List.mem_cons, List.not_mem_nil, or_false] at hc
    rcases hc with rfl | rfl | rfl | rfl | rfl
    · exact ⟨_, hz, fun v q => by cases q⟩
    · exact ⟨_, hTI, fun v q => by cases q⟩
    · exact ⟨_, hTO, fun v q => by cases q⟩
    · exact h1.obj
    · exact h2.obj
  keep := fun i h h' st kp => by
    obtain ⟨hz, hTI, ⟨x, y, hTO⟩, h1, h2⟩ := st
    exact ⟨kp z (by simp) _ hz, kp TI (by simp) _ hTI, ⟨x, y, kp TO (by simp) _ hTO⟩, h1.at (kp i1 (by simp)), h2.at (kp i2 (by simp))⟩
  item := by
    intro X e1 e2 e3 hc i pins s σ H E I hf st hg
    subst e1 e2 e3
    obtain ⟨hz, hTI, ⟨x0, y0, hTO⟩, h1, h2⟩ := st
    obtain ⟨xs, ys, x, y, hqx, hqy, hx, hy⟩ := hg
    obtain ⟨its, rv, p1, _, _⟩ := inv_sq I hqx
    obtain ⟨jts, rw2, p2, _, _⟩ := inv_sq I hqy
    obtain ⟨u, hu, ru⟩ := rv.get hx
    obtain ⟨u2, hu2, ru2⟩ := rw2.get hy
    have hh : X.A.in1.handled = none := I.ok.hd hc
    have hzl : z < s.heap.objs.size := Heap.lt_size hz
    refine wpAny_pyNext_zipD2_item S (draws_sq k1 hh na its.toArray) (draws_sq k2 hh nb jts.toArray) hz hTI hTO ⟨h1, p1⟩ ⟨h2, p2⟩ ?_ ?_ fun v1 v2 h' tk y1 y2 z' TO' st1 st2 hT hsz hk => ?_
    · rw [vals_len rv]
      exact (List.getElem?_eq_some_iff.mp hx).1
    · rw [vals_len rw2]
      exact (List.getElem?_eq_some_iff.mp hy).1
    have ev1 : v1 = u := by
      rw [List.getElem?_toArray, hu] at y1
      exact (Option.some.inj y1).symm
    have ev2 : v2 = u2 := by
      rw [List.getElem?_toArray, hu2] at y2
      exact (Option.some.inj y2).symm
    subst ev1 ev2
    refine ⟨_, rfl, wpAny_letOwnedTupleGo_zip (s := { s with heap := h', toks := tk }) z' fun h'' z'' sb => ?_⟩
    have gT : h''.get? s.heap.objs.size = some { cls := .type "tuple", data := .seq #[v1, v2] } := (sb.2 _ (Nat.ne_of_gt hzl)).trans hT
    have ob : ObjOk X.prog X.w (upd H s.heap.objs.size (labT [x, y] { cls := .type "tuple", data := .seq #[v1, v2] })) h'' s.heap.objs.size (labT [x, y] { cls := .type "tuple", data := .seq #[v1, v2] }) := lab_ok gT ⟨by show 2 ≤ sizeLine; decide, [v1, v2], .cons ru (.cons ru2 .nil), ⟨_, gT, rfl, _, rfl⟩⟩
    have J : Inv X pins σ (upd H s.heap.objs.size (labT [x, y] { cls := .type "tuple", data := .seq #[v1, v2] })) { s with heap := h'', toks := tk } := by
      refine I.turnedNew (t' := tk) (ch := [z, TI, TO, i1, i2]) (fun c o hb q => ?_) hf (Nat.le_refl _) ob
      simp only [List.mem_cons, List.not_mem_nil, or_false, not_or] at hb
      exact (sb.2 c hb.1).trans (hk c o hb.1 hb.2.2.1 hb.2.2.2.1 hb.2.2.2.2 q)
    have zi1 : i1 ≠ z := fun q => S.zf1 (by rw [← q]; exact List.mem_cons_self ..)
    have zi2 : i2 ≠ z := fun q => S.zf2 (by rw [← q]; exact List.mem_cons_self ..)
    refine ⟨.ref s.heap.objs.size, _, J, rfl, ⟨_, x, y, _, rfl, rfl, I.hok.fresh (Nat.le_refl _), rfl, fun l hl => by rw [inv_sq_inj I hl hqx]; exact hx, fun l hl => by rw [inv_sq_inj I hl hqy]; exact hy⟩, ⟨z'', ?_, ⟨v1, v2, ?_⟩, ?_, ?_⟩, fun c hcm => ?_⟩
    · exact (sb.2 _ S.TIz).trans (hk _ _ S.TIz S.TITO S.TIi1 S.TIi2 hTI)
    · exact (sb.2 _ S.TOz).trans TO'
    · exact st1.1.at fun o q => (sb.2 _ zi1).trans q
    · exact st2.1.at fun o q => (sb.2 _ zi2).trans q
    · have lt : c < s.heap.objs.size := by
        simp only [List.mem_cons, List.not_mem_nil, or_false] at hcm
        rcases hcm with rfl | rfl | rfl | rfl | rfl
        · exact hzl
        · exact Heap.lt_size hTI
        · exact Heap.lt_size hTO
        · obtain ⟨_, q, _⟩ := h1.obj; exact Heap.lt_size q
        · obtain ⟨_, q, _⟩ := h2.obj; exact Heap.lt_size q
      rw [upd_ne (Nat.ne_of_lt lt)]
      exact (hf c hcm).1
  done := by
    intro X e1 e2 e3 hc i pins s σ H E I hf st hg
    subst e1 e2 e3
    obtain ⟨hz, hTI, ⟨x0, y0, hTO⟩, h1, h2⟩ := st
    obtain ⟨xs, ys, hqx, hqy, l1, l2, hend⟩ := hg
    obtain ⟨its, rv, p1, _, _⟩ := inv_sq I hqx
    obtain ⟨jts, rw2, p2, _, _⟩ := inv_sq I hqy
    have hh : X.A.in1.handled = none := I.ok.hd hc
    refine wpAny_pyNext_zipD2_end S (draws_sq k1 hh na its.toArray) (draws_sq k2 hh nb jts.toArray) hz hTI hTO ⟨h1, p1⟩ ⟨h2, p2⟩ (by rw [vals_len rv]; exact l1) (by rw [vals_len rw2]; exact l2) (by rw [vals_len rv, vals_len rw2]; exact hend) fun h' tk hk => ⟨rfl, ?_⟩
    refine I.turnedL (t' := tk) (ch := [z, TI, TO, i1, i2]) (fun c o hb q => ?_) hf
    simp only [List.mem_cons, List.not_mem_nil, or_false, not_or] at hb
    exact hk c o hb.1 hb.2.2.1 hb.2.2.2.1 hb.2.2.2.2 q
  self := fun A i s Q E st h => wpAny_pyIter_zip st.1 h
def iZip2 (K : PySem.W.Frag) (ta : TA) : TI := fun σ H R => ta σ H fun vs H1 => ∃ k1 k2 a b xs ys, vs = [.ref a, .ref b] ∧ Sq K H1 k1 a xs ∧ Sq K H1 k2 b ys ∧ (xs.length ≤ sizeLine → ys.length ≤ sizeLine → R (Itz2 K k1 k2 a b) H1)
theorem pi_z2 {X : Cx} {e e2 : Expr} {ta : TA} {p pos tp : Pos} {elts : List Expr} {kk : Nat} (hg : Gl X "zip") (hm : X.mg "zip" = none) (ha : PA X [e, e2] ta)
    (h1 : starEach [e, e2] X.env = (false, eval e X.env) :: starEach [e2] X.env) (h2 : (backTo pos (starEach [e2] X.env)).any (·.1) = false) : PI X (.Tuple elts kk tp) (.Call (.Name "zip" p) [e, e2] [] pos) (iZip2 X.K ta) := by
  refine ⟨fun pins s σ H R I h => ?_⟩
  refine Call_ (ld_blt I hg hm PyProof.Rows.boot_zip (PyProof.Rows.callWith_type1 (thn (ha.run pos pins s σ H _ I h) fun us s1 ⟨vs, H1, I1, r1, q1⟩ => ?_) h1 h2))
  obtain ⟨k1, k2, a, b, xs, ys, rfl, hqx, hqy, q⟩ := q1
  rcases r1 with _ | ⟨r, _ | ⟨r', _ | _⟩⟩
  · cases r
    cases r'
    obtain ⟨its, rv, p1, z1, l1⟩ := inv_sq I1 hqx
    obtain ⟨jts, rv2, p2, z2, l2⟩ := inv_sq I1 hqy
    refine zip_begins2 (begins_sq k1 a its.toArray) (begins_sq k2 b jts.toArray) p1 p2 fun h' hz hTI hTO g1 g2 hsz hk => wpAny_pyIter_zip hz ?_
    have I2 : Inv X pins σ H1 { s1 with heap := h' } := I1.kept (t' := s1.toks) hk
    have S : ZipSep2 (s1.heap.objs.size + 4) (s1.heap.objs.size + 2) (s1.heap.objs.size + 3) s1.heap.objs.size (s1.heap.objs.size + 1) [s1.heap.objs.size, a] [s1.heap.objs.size + 1, b] := zip_sep2 (fun c hc => by rw [List.mem_singleton.mp hc]; exact l1) (fun c hc => by rw [List.mem_singleton.mp hc]; exact l2)
    refine ⟨s1.heap.objs.size + 4, [s1.heap.objs.size + 4, s1.heap.objs.size + 2, s1.heap.objs.size + 3, s1.heap.objs.size, s1.heap.objs.size + 1], _, _, H1, rfl, I2, turn_z2 (k1 := k1) (k2 := k2) S (Nat.ne_of_lt l1) (Nat.ne_of_lt (Nat.lt_succ_of_lt l2)), ⟨hz, hTI, ⟨_, _, hTO⟩, .of_obj g1, .of_obj g2⟩, fun c hcm => ?_, q z1 z2⟩
    have hle : s1.heap.objs.size ≤ c := by
      simp only [List.mem_cons, List.not_mem_nil, or_false] at hcm
      rcases hcm with rfl | rfl | rfl | rfl | rfl <;> first | exact Nat.le_add_right _ _ | exact Nat.le_refl _
    exact I1.fpOk hle (I1.hok.fresh hle)

/-! ### three -/
def Itz3 (K : PySem.W.Frag) (k1 k2 k3 : Bool) (a b d : Addr) : L2.It where
  go := fun i H => ∃ (xs ys us : List V) (x y u : V), Sq K H k1 a xs ∧ Sq K H k2 b ys ∧ Sq K H k3 d us ∧ xs[i]? = some x ∧ ys[i]? = some y ∧ us[i]? = some u
  yld := fun i H v H' => ∃ (T : Addr) (x y u : V) (ob : Obj), ob.dict = none ∧ v = .ref T ∧ H T = none ∧ H' = upd H T (labT [x, y, u] ob) ∧ (∀ xs, Sq K H k1 a xs → xs[i]? = some x) ∧ (∀ ys, Sq K H k2 b ys → ys[i]? = some y) ∧ ∀ us, Sq K H k3 d us → us[i]? = some u
  stop := fun i H => ∃ xs ys us : List V, Sq K H k1 a xs ∧ Sq K H k2 b ys ∧ Sq K H k3 d us ∧ i ≤ xs.length ∧ i ≤ ys.length ∧ i ≤ us.length ∧ (i = xs.length ∨ i = ys.length ∨ i = us.length)
theorem turn_z3 {P : Program} {w : World} {K : PySem.W.Frag} {elts : List Expr} {kk : Nat} {tp : Pos} {k1 k2 k3 : Bool} {a b d z TI TO i1 i2 i3 : Addr} (S : ZipSep3 z TI TO i1 i2 i3 [i1, a] [i2, b] [i3, d]) (na : a ≠ i1) (nb : b ≠ i2) (nd : d ≠ i3) :
    Turn P w K (.Tuple elts kk tp) (Itz3 K k1 k2 k3 a b d) [z, TI, TO, i1, i2, i3] z (fun i h => IsZip h z TI TO .none ∧ IsTupOf3 h TI (.ref i1) (.ref i2) (.ref i3) ∧ (∃ x y u, IsTupOf3 h TO x y u) ∧ ItO k1 h i1 a i ∧ ItO k2 h i2 b i ∧ ItO k3 h i3 d i) where
  mem := List.mem_cons_self ..
  obj := fun i h st c hc => by
    obtain ⟨hz, hTI, ⟨x, y, u, hTO⟩, h1, h2, h3⟩ := st
    simp only [List.mem_cons, List.not_mem_nil, or_false] at hc
    rcases hc with rfl | rfl | rfl | rfl | rfl | rfl
    · exact ⟨_, hz, fun v q => by cases q⟩
    · exact ⟨_, hTI, fun v q => by cases q⟩
    · exact ⟨_, hTO, fun v q => by cases q⟩
    · exact h1.obj
    · exact h2.obj
    · exact h3.obj
  keep := fun i h h' st kp => by
    obtain ⟨hz, hTI, ⟨x, y, u, hTO⟩, h1, h2, h3⟩ := st
    exact ⟨kp z (by simp) _ hz, kp TI (by simp) _ hTI, ⟨x, y, u, kp TO (by simp) _ hTO⟩, h1.at (kp i1 (by simp)), h2.at (kp i2 (by simp)), h3.at (kp i3 (by simp))⟩
  item := by
    intro X e1 e2 e3 hc i pins s σ H E I hf st hg
    subst e1 e2 e3
    obtain ⟨hz, hTI, ⟨x0, y0, u0, hTO⟩, h1, h2, h3⟩ := st
    obtain ⟨xs, ys, us, x, y, u, hqx, hqy, hqu, hx, hy, hu⟩ := hg
    obtain ⟨its, rv, p1, _, _⟩ := inv_sq I hqx
    obtain ⟨jts, rv2, p2, _, _⟩ := inv_sq I hqy
    obtain ⟨kts, rv3, p3, _, _⟩ := inv_sq I hqu
    obtain ⟨o1, ho1, ru1⟩ := rv.get hx
    obtain ⟨o2, ho2, ru2⟩ := rv2.get hy
    obtain ⟨o3, ho3, ru3⟩ := rv3.get hu
    have hh : X.A.in1.handled = none := I.ok.hd hc
    have hzl : z < s.heap.objs.size := Heap.lt_size hz
    refine wpAny_pyNext_zipD3_item S (draws_sq k1 hh na its.toArray) (draws_sq k2 hh nb jts.toArray) (draws_sq k3 hh nd kts.toArray) hz hTI hTO ⟨h1, p1⟩ ⟨h2, p2⟩ ⟨h3, p3⟩ ?_ ?_ ?_ fun v1 v2 v3 h' tk y1 y2 y3 z' TO' st1 st2 st3 hT hsz hk => ?_
    · rw [vals_len rv]
      exact (List.getElem?_eq_some_iff.mp hx).1
    · rw [vals_len rv2]
      exact (List.getElem?_eq_some_iff.mp hy).1
    · rw [vals_len rv3]
      exact (List.getElem?_eq_some_iff.mp hu).1
    have ev1 : v1 = o1 := by
      rw [List.getElem?_toArray, ho1] at y1
      exact (Option.some.inj y1).symm
    have ev2 : v2 = o2 := by
      rw [List.getElem?_toArray, ho2] at y2
      exact (Option.some.inj y2).symm
    have ev3 : v3 = o3 := by
      rw [List.getElem?_toArray, ho3] at y3
      exact (Option.some.inj y3).symm
    subst ev1 ev2 ev3
    refine ⟨_, rfl, wpAny_letOwnedTupleGo_zip (s := { s with heap := h', toks := tk }) z' fun h'' z'' sb => ?_⟩
    have gT : h''.get? s.heap.objs.size = some { cls := .type "tuple", data := .seq #[v1, v2, v3] } := (sb.2 _ (Nat.ne_of_gt hzl)).trans hT
    have ob : ObjOk X.prog X.w (upd H s.heap.objs.size (labT [x, y, u] { cls := .type "tuple", data := .seq #[v1, v2, v3] })) h'' s.heap.objs.size (labT [x, y, u] { cls := .type "tuple", data := .seq #[v1, v2, v3] }) := lab_ok gT ⟨by show 3 ≤ sizeLine; decide, [v1, v2, v3], .cons ru1 (.cons ru2 (.cons ru3 .nil)), ⟨_, gT, rfl, _, rfl⟩⟩
    have J : Inv X pins σ (upd H s.heap.objs.size (labT [x, y, u] { cls := .type "tuple", data := .seq #[v1, v2, v3] })) { s with heap := h'', toks := tk } := by
      refine I.turnedNew (t' := tk) (ch := [z, TI, TO, i1, i2, i3]) (fun c o hb q => ?_) hf (Nat.le_refl _) ob
      simp only [List.mem_cons, List.not_mem_nil, or_false, not_or] at hb
      exact (sb.2 c hb.1).trans (hk c o hb.1 hb.2.2.1 hb.2.2.2.1 hb.2.2.2.2.1 hb.2.2.2.2.2 q)
    have zi1 : i1 ≠ z := fun q => S.zf1 (by rw [← q]; exact List.mem_cons_self ..)
    have zi2 : i2 ≠ z := fun q => S.zf2 (by rw [← q]; exact List.mem_cons_self ..)
    have zi3 : i3 ≠ z := fun q => S.zf3 (by rw [← q]; exact List.mem_cons_self ..)
    refine ⟨.ref s.heap.objs.size, _, J, rfl, ⟨_, x, y, u, _, rfl, rfl, I.hok.fresh (Nat.le_refl _), rfl, fun l hl => by rw [inv_sq_inj I hl hqx]; exact hx, fun l hl => by rw [inv_sq_inj I hl hqy]; exact hy, fun l hl => by rw [inv_sq_inj I hl hqu]; exact hu⟩, ⟨z'', ?_, ⟨v1, v2, v3, ?_⟩, ?_, ?_, ?_⟩, fun c hcm => ?_⟩
    · exact (sb.2 _ S.TIz).trans (hk _ _ S.TIz S.TITO S.TIi1 S.TIi2 S.TIi3 hTI)
    · exact (sb.2 _ S.TOz).trans TO'
    · exact st1.1.at fun o q => (sb.2 _ zi1).trans q
    · exact st2.1.at fun o q => (sb.2 _ zi2).trans q
    · exact st3.1.at fun o q => (sb.2 _ zi3).trans q
    · have lt : c < s.heap.objs.size := by
        simp only [List.mem_cons, List.not_mem_nil, or_false] at hcm
        rcases hcm with rfl | rfl | rfl | rfl | rfl | rfl
        · exact hzl
        · exact Heap.lt_size hTI
        · exact Heap.lt_size hTO
        · obtain ⟨_, q, _⟩ := h1.obj; exact Heap.lt_size q
        · obtain ⟨_, q, _⟩ := h2.obj; exact Heap.lt_size q
        · obtain ⟨_, q, _⟩ := h3.obj; exact Heap.lt_size q
      rw [upd_ne (Nat.ne_of_lt lt)]
      exact (hf c hcm).1
  done := by
    intro X e1 e2 e3 hc i pins s σ H E I hf st hg
    subst e1 e2 e3
    obtain ⟨hz, hTI, ⟨x0, y0, u0, hTO⟩, h1, h2, h3⟩ := st
    obtain ⟨xs, ys, us, hqx, hqy, hqu, l1, l2, l3, hend⟩ := hg
    obtain ⟨its, rv, p1, _, _⟩ := inv_sq I hqx
    obtain ⟨jts, rv2, p2, _, _⟩ := inv_sq I hqy
    obtain ⟨kts, rv3, p3, _, _⟩ := inv_sq I hqu
    have hh : X.A.in1.handled = none := I.ok.hd hc
    refine wpAny_pyNext_zipD3_end S (draws_sq k1 hh na its.toArray) (draws_sq k2 hh nb jts.toArray) (draws_sq k3 hh nd kts.toArray) hz hTI hTO ⟨h1, p1⟩ ⟨h2, p2⟩ ⟨h3, p3⟩ (by rw [vals_len rv]; exact l1) (by rw [vals_len rv2]; exact l2) (by rw [vals_len rv3]; exact l3) (by rw [vals_len rv, vals_len rv2, vals_len rv3]; exact hend) fun h' tk hk => ⟨rfl, ?_⟩
    refine I.turnedL (t' := tk) (ch := [z, TI, TO, i1, i2, i3]) (fun c o hb q => ?_) hf
    simp only [List.mem_cons, List.not_mem_nil, or_false, not_or] at hb
    exact hk c o hb.1 hb.2.2.1 hb.2.2.2.1 hb.2.2.2.2.1 hb.2.2.2.2.2 q
  self := fun A i s Q E st h => wpAny_pyIter_zip st.1 h
def iZip3 (K : PySem.W.Frag) (ta : TA) : TI := fun σ H R => ta σ H fun vs H1 => ∃ k1 k2 k3 a b d xs ys us, vs = [.ref a, .ref b, .ref d] ∧ Sq K H1 k1 a xs ∧ Sq K H1 k2 b ys ∧ Sq K H1 k3 d us ∧ (xs.length ≤ sizeLine → R (Itz3 K k1 k2 k3 a b d) H1)
theorem pi_z3 {X : Cx} {e e2 e3 : Expr} {ta : TA} {p pos tp : Pos} {elts : List Expr} {kk : Nat} (hg : Gl X "zip") (hm : X.mg "zip" = none) (ha : PA X [e, e2, e3] ta)
    (h1 : starEach [e, e2, e3] X.env = (false, eval e X.env) :: starEach [e2, e3] X.env) (h2 : (backTo pos (starEach [e2, e3] X.env)).any (·.1) = false) : PI X (.Tuple elts kk tp) (.Call (.Name "zip" p) [e, e2, e3] [] pos) (iZip3 X.K ta) := by
  refine ⟨fun pins s σ H R I h => ?_⟩
  refine Call_ (ld_blt I hg hm PyProof.Rows.boot_zip (PyProof.Rows.callWith_type1 (thn (ha.run pos pins s σ H _ I h) fun us s1 ⟨vs, H1, I1, r1, q1⟩ => ?_) h1 h2))
  obtain ⟨k1, k2, k3, a, b, d, xs, ys, zs, rfl, hqx, hqy, hqz, q⟩ := q1
  rcases r1 with _ | ⟨r, _ | ⟨r', _ | ⟨r'', _ | _⟩⟩⟩
  · cases r
    cases r'
    cases r''
    obtain ⟨its, rv, p1, z1, l1⟩ := inv_sq I1 hqx
    obtain ⟨jts, rv2, p2, z2, l2⟩ := inv_sq I1 hqy
    obtain ⟨kts, rv3, p3, z3, l3⟩ := inv_sq I1 hqz
    refine zip_begins3 (begins_sq k1 a its.toArray) (begins_sq k2 b jts.toArray) (begins_sq k3 d kts.toArray) p1 p2 p3 fun h' hz hTI hTO g1 g2 g3 hsz hk => wpAny_pyIter_zip hz ?_
    have I2 : Inv X pins σ H1 { s1 with heap := h' } := I1.kept (t' := s1.toks) hk
    have S : ZipSep3 (s1.heap.objs.size + 5) (s1.heap.objs.size + 3) (s1.heap.objs.size + 4) s1.heap.objs.size (s1.heap.objs.size + 1) (s1.heap.objs.size + 2) [s1.heap.objs.size, a] [s1.heap.objs.size + 1, b] [s1.heap.objs.size + 2, d] := zip_sep3 (fun c hc => by rw [List.mem_singleton.mp hc]; exact l1) (fun c hc => by rw [List.mem_singleton.mp hc]; exact l2) (fun c hc => by rw [List.mem_singleton.mp hc]; exact l3)
    refine ⟨s1.heap.objs.size + 5, [s1.heap.objs.size + 5, s1.heap.objs.size + 3, s1.heap.objs.size + 4, s1.heap.objs.size, s1.heap.objs.size + 1, s1.heap.objs.size + 2], _, _, H1, rfl, I2, turn_z3 (k1 := k1) (k2 := k2) (k3 := k3) S (Nat.ne_of_lt l1) (Nat.ne_of_lt (Nat.lt_succ_of_lt l2)) (Nat.ne_of_lt (Nat.lt_succ_of_lt (Nat.lt_succ_of_lt l3))), ⟨hz, hTI, ⟨_, _, _, hTO⟩, .of_obj g1, .of_obj g2, .of_obj g3⟩, fun c hcm => ?_, q z1⟩
    have hle : s1.heap.objs.size ≤ c := by
      simp only [List.mem_cons, List.not_mem_nil, or_false] at hcm
      rcases hcm with rfl | rfl | rfl | rfl | rfl | rfl <;> first | exact Nat.le_add_right _ _ | exact Nat.le_refl _
    exact I1.fpOk hle (I1.hok.fresh hle)

/-! ### enumerate -/
theorem enum_made {v : Value} {o : Obj} {Hq : Heap → Prop} (B : Begins v o Hq) :
    Meets (Builtin.«enumerate.__new__» ⟨[.type "enumerate", v], []⟩) (fun _ R s => Hq s.heap ∧
      R (.ok (.ret (.ref (s.heap.push o).objs.size))) { s with heap := (s.heap.push o).push { cls := .type "enumerate", data := .fields #[.none, .bool false, .ref s.heap.objs.size, rawInt 0, .none, .none] } }) :=
  .of_wp fun prog w A R s h => by
    obtain ⟨hp, g, d, tk, os⟩ := s
    obtain ⟨h1, h⟩ := h
    have hsub := sub_enumerate
    have begun : ∀ {A' : Around} {E : Value → Shared → Prop} {Q : Value → Shared → Prop}, Q (.ref hp.objs.size) ⟨hp.push o, g, d, tk, os⟩ → wpAny (model prog w) A' (pyIter v) Q E ⟨hp, g, d, tk, os⟩ := fun q => B.iter prog w _ _ ⟨hp, g, d, tk, os⟩ _ h1 q
    wp_walk using begun
    refine wpAny_stack_any fun st => wpAny_pure ?_
    split
    · rename_i c _ _ _ _ _
      cases (c == Value.type "enumerate")
      · wp_walk using begun
        exact ⟨_, rfl, h⟩
      · wp_walk using begun
        exact ⟨_, rfl, h⟩
    · wp_walk using begun
      exact ⟨_, rfl, h⟩
theorem enum_call {prog : Program} {w : World} {A : Around} {E : Value → Shared → Prop} {s : Shared} {v : Value} {o : Obj} {Hq : Heap → Prop} {Q : Value → Shared → Prop} (B : Begins v o Hq) (h1 : Hq s.heap)
    (h : ∀ h', IsEnum h' (s.heap.objs.size + 1) s.heap.objs.size 0 .none → h'.get? s.heap.objs.size = some o → (∀ b o, s.heap.get? b = some o → h'.get? b = some o) → Q (.ref (s.heap.objs.size + 1)) { s with heap := h' }) :
    wpAny (model prog w) A (call (.type "enumerate") [v]) Q E s := by
  refine callType_new F.called_enumerate (by decide) (F.typeCall_enumerate_1 _) (F.newCall_enumerate_1 _) (fun obj => F.args_object_init_2 obj _) F.entry_enumerate_new (enum_made B) ⟨h1, ?_⟩
  obtain ⟨eo, heo⟩ : ∃ eo : Obj, eo = { cls := .type "enumerate", data := .fields #[.none, .bool false, .ref s.heap.objs.size, rawInt 0, .none, .none] } := ⟨_, rfl⟩
  have hz : (s.heap.push o).objs.size = s.heap.objs.size + 1 := Heap.size_push ..
  rw [← heo]
  show _ ∧ _
  rw [hz]
  have he : IsEnum ((s.heap.push o).push eo) (s.heap.objs.size + 1) s.heap.objs.size 0 .none := by
    have g := Heap.get?_push_size (s.heap.push o) (o := eo) (by rw [heo]; rfl)
    rw [hz, heo] at g
    rw [heo]
    exact g
  exact ⟨⟨_, he, rfl⟩, h _ he (Heap.get?_push_of_some _ (Heap.get?_push_size _ B.free)) fun b o x => Heap.get?_push_of_some _ (Heap.get?_push_of_some _ x)⟩
def Ite2 (K : PySem.W.Frag) (k : Bool) (a : Addr) : L2.It where
  go := fun i H => ∃ (xs : List V) (x : V), Sq K H k a xs ∧ xs[i]? = some x
  yld := fun i H v H' => ∃ (T : Addr) (x : V) (ob : Obj), ob.dict = none ∧ v = .ref T ∧ H T = none ∧ H' = upd H T (labT [.int i, x] ob) ∧ (∀ xs, Sq K H k a xs → xs[i]? = some x)
  stop := fun i H => ∃ xs : List V, Sq K H k a xs ∧ i = xs.length
theorem turn_e2 {P : Program} {w : World} {K : PySem.W.Frag} {elts : List Expr} {kk : Nat} {tp : Pos} {k : Bool} {a e it : Addr} (hei : e ≠ it) (hea : e ≠ a) (na : a ≠ it) :
    Turn P w K (.Tuple elts kk tp) (Ite2 K k a) [e, it] e (fun i h => (∃ old, IsEnum h e it (0 + (i : Int)) old) ∧ ItO k h it a i) where
  mem := List.mem_cons_self ..
  obj := fun i h st c hc => by
    obtain ⟨⟨old, he⟩, h1⟩ := st
    simp only [List.mem_cons, List.not_mem_nil, or_false] at hc
    rcases hc with rfl | rfl
    · exact ⟨_, he, fun v q => by cases q⟩
    · exact h1.obj
  keep := fun i h h' st kp => by
    obtain ⟨⟨old, he⟩, h1⟩ := st
    exact ⟨⟨old, kp e (by simp) _ he⟩, h1.at (kp it (by simp))⟩
  item := by
    intro X e1 e2 e3 hc i pins s σ H E I hf st hg
    subst e1 e2 e3
    obtain ⟨⟨old, he⟩, h1⟩ := st
    obtain ⟨xs, x, hqx, hx⟩ := hg
    obtain ⟨its, rv, p1, _, _⟩ := inv_sq I hqx
    obtain ⟨u, hu, ru⟩ := rv.get hx
    have hh : X.A.in1.handled = none := I.ok.hd hc
    have hel : e < s.heap.objs.size := Heap.lt_size he
    refine wpAny_pyNext_enum_itemC (draws_sq k hh na its.toArray) he ⟨h1, p1⟩ ?_ hei ?_ fun v h' tk y1 ho st1 hT hsz hk => ?_
    · rw [vals_len rv]
      exact (List.getElem?_eq_some_iff.mp hx).1
    · simp [hei, hea]
    have ev1 : v = u := by
      rw [List.getElem?_toArray, hu] at y1
      exact (Option.some.inj y1).symm
    subst ev1
    refine ⟨_, rfl, wpAny_letOwnedTupleGo_enum (s := { s with heap := h', toks := tk + 1 }) ho fun h'' e'' sb => ?_⟩
    have gT : h''.get? s.heap.objs.size = some { cls := .type "tuple", data := .seq #[.int (0 + (i : Int)) tk, v] } := (sb.2 _ (Nat.ne_of_gt hel)).trans hT
    have ob : ObjOk X.prog X.w (upd H s.heap.objs.size (labT [.int i, x] { cls := .type "tuple", data := .seq #[.int (0 + (i : Int)) tk, v] })) h'' s.heap.objs.size (labT [.int i, x] { cls := .type "tuple", data := .seq #[.int (0 + (i : Int)) tk, v] }) := lab_ok gT ⟨by show 2 ≤ sizeLine; decide, [.int (0 + (i : Int)) tk, v], .cons ⟨tk, by simp⟩ (.cons ru .nil), ⟨_, gT, rfl, _, rfl⟩⟩
    have J : Inv X pins σ (upd H s.heap.objs.size (labT [.int i, x] { cls := .type "tuple", data := .seq #[.int (0 + (i : Int)) tk, v] })) { s with heap := h'', toks := tk + 1 } := by
      refine I.turnedNew (t' := tk + 1) (ch := [e, it]) (fun c o hb q => ?_) hf (Nat.le_refl _) ob
      simp only [List.mem_cons, List.not_mem_nil, or_false, not_or] at hb
      exact (sb.2 c hb.1).trans (hk c o hb.1 hb.2 q)
    refine ⟨.ref s.heap.objs.size, _, J, rfl, ⟨_, x, _, rfl, rfl, I.hok.fresh (Nat.le_refl _), rfl, fun l hl => by rw [inv_sq_inj I hl hqx]; exact hx⟩, ⟨⟨v, ?_⟩, ?_⟩, fun c hcm => ?_⟩
    · have z : (0 : Int) + ((i + 1 : Nat) : Int) = 0 + (i : Int) + 1 := by omega
      rw [z]
      exact e''
    · exact st1.1.at fun o q => (sb.2 _ (Ne.symm hei)).trans q
    · have lt : c < s.heap.objs.size := by
        simp only [List.mem_cons, List.not_mem_nil, or_false] at hcm
        rcases hcm with rfl | rfl
        · exact hel
        · obtain ⟨_, q, _⟩ := h1.obj; exact Heap.lt_size q
      rw [upd_ne (Nat.ne_of_lt lt)]
      exact (hf c hcm).1
  done := by
    intro X e1 e2 e3 hc i pins s σ H E I hf st hg
    subst e1 e2 e3
    obtain ⟨⟨old, he⟩, h1⟩ := st
    obtain ⟨xs, hqx, hend⟩ := hg
    obtain ⟨its, rv, p1, _, _⟩ := inv_sq I hqx
    have hh : X.A.in1.handled = none := I.ok.hd hc
    have h1' : ItO k s.heap it a its.toArray.size := by rw [vals_len rv, ← hend]; exact h1
    refine wpAny_pyNext_enum_endD (draws_sq k hh na its.toArray) he ⟨h1', p1⟩ fun h' hk => ⟨rfl, ?_⟩
    refine I.turnedL (t' := s.toks) (ch := [e, it]) (fun c o hb q => ?_) hf
    simp only [List.mem_cons, List.not_mem_nil, or_false, not_or] at hb
    exact hk c o hb.2 q
  self := fun A i s Q E st h => by
    obtain ⟨⟨old, he⟩, _⟩ := st
    exact wpAny_pyIter_enum he h
def iEnum2 (K : PySem.W.Frag) (ta : TA) : TI := fun σ H R => ta σ H fun vs H1 => ∃ k a xs, vs = [.ref a] ∧ Sq K H1 k a xs ∧ (xs.length ≤ sizeLine → R (Ite2 K k a) H1)
theorem pi_e2 {X : Cx} {e : Expr} {ta : TA} {p pos tp : Pos} {elts : List Expr} {kk : Nat} (hg : Gl X "enumerate") (hm : X.mg "enumerate" = none) (ha : PA X [e] ta) (h1 : starEach [e] X.env = [(false, eval e X.env)]) :
    PI X (.Tuple elts kk tp) (.Call (.Name "enumerate" p) [e] [] pos) (iEnum2 X.K ta) := by
  refine ⟨fun pins s σ H R I h => ?_⟩
  refine Call_ (ld_blt I hg hm boot_enumerate (PyProof.Rows.callWith_type1 (thn (ha.run pos pins s σ H _ I h) fun us s1 ⟨vs, H1, I1, r1, q1⟩ => ?_) h1 rfl))
  obtain ⟨k, a, xs, rfl, hqx, q⟩ := q1
  rcases r1 with _ | ⟨r, _ | _⟩
  · cases r
    obtain ⟨its, rv, p1, z1, l1⟩ := inv_sq I1 hqx
    refine enum_call (begins_sq k a its.toArray) p1 fun h' he g1 hk => wpAny_pyIter_enum he ?_
    have I2 : Inv X pins σ H1 { s1 with heap := h' } := I1.kept (t' := s1.toks) hk
    refine ⟨s1.heap.objs.size + 1, [s1.heap.objs.size + 1, s1.heap.objs.size], _, _, H1, rfl, I2, turn_e2 (k := k) (Nat.succ_ne_self _) (Nat.ne_of_gt (Nat.lt_succ_of_lt l1)) (Nat.ne_of_lt l1), ⟨⟨_, he⟩, .of_obj g1⟩, fun c hcm => ?_, q z1⟩
    have hle : s1.heap.objs.size ≤ c := by
      simp only [List.mem_cons, List.not_mem_nil, or_false] at hcm
      rcases hcm with rfl | rfl <;> first | exact Nat.le_add_right _ _ | exact Nat.le_refl _
    exact I1.fpOk hle (I1.hok.fresh hle)
end Ap

end
section
/-! len(set(xs)), xs a list or tuple of tuples of ints. -/
namespace Ap
open PySem PySem.Spec PyProof.Rows L2

section
variable {P : Program} {w : World} {A : Around} {E : Value → Shared → Prop} {s : Shared}
abbrev setNew (w : World) : Obj := { cls := .type "set", dict := none, data := .set #[] 0 (.fresh 0 0 (!w.params.followText "set-order")) }
theorem set_of_tup {l : Addr} {items : Array Value} (ks : List (Addr × List Int)) {Q : Value → Shared → Prop} (hh : A.handled = none) (hl : s.heap.IsTuple l items) (hit : items.toList = ks.map fun p => Value.ref p.1)
    (hk : ∀ p ∈ ks, IsT P w s.heap p.2 p.1) (hfew : ks.length < 64) (hu : A.units + 3 < cLine)
    (h : ∀ (h' : Heap) (tk : Nat) L es ep t, SetTR P w h' s.heap.objs.size L es ep t → Got ks ks.length L → (∀ b o, s.heap.get? b = some o → h'.get? b = some o) → Q (.ref s.heap.objs.size) { s with heap := h', toks := tk }) :
    wpAny (model P w) A (call (.type "set") [.ref l]) Q E s := by
  have size_ks : items.size = ks.length := by
    have := congrArg List.length hit
    simpa using this
  obtain ⟨c, tl, hmro⟩ := F.called_set.mro
  have hmade := F.called_set.made
  have hsub := F.called_set.sub
  refine wpAny_call (codeAny_of_tree ?_)
  show wpAny _ _ (callAny (.type "set") _) _ _ _
  refine wpAny_pure ⟨Code.quiet_builtin _ (by decide +kernel), codeAny_builtin F.entry_type_call ?_⟩
  rw [Around.under_plain (weight_type_call_type "set" [.ref l] []) rfl]
  have h1 := F.called_set.notType
  have h2 := F.called_set.canCreate
  have hct := F.typeCall_set_1 (.ref l)
  repeat (any_goals (first | assumption | wp_step))
  refine codeAny_mono (code_set_led1 (.ref l) (E := E) (Q₁ := fun obj s₁ => obj = .ref s.heap.objs.size ∧ s₁ = { s with heap := s.heap.push (setNew w) }) ⟨rfl, rfl⟩) fun r s₁ hr => ?_
  cases r with
  | error e => exact hr
  | ok fl =>
    cases fl with
    | ret obj =>
      obtain ⟨rfl, rfl⟩ := hr
      have hS : (s.heap.push (setNew w)).get? s.heap.objs.size = some (setNew w) := Heap.get?_push_size _ rfl
      have hT : Shared.TypeIs { s with heap := s.heap.push (setNew w) } (.ref s.heap.objs.size) "set" := ⟨_, hS, rfl⟩
      have hli := F.called_set.init.lookup
      have hbi := F.called_set.init.bind (.ref s.heap.objs.size)
      repeat (any_goals (first | assumption | wp_step))
      refine codeAny_mono (codeAny_call_builtin (R := wants (fun r s₂ => r = .none ∧ ∃ h' tk L es ep t, s₂ = { s with heap := h', toks := tk } ∧ SetTR P w h' s.heap.objs.size L es ep t ∧ Got ks ks.length L ∧
          (∀ b o, s.heap.get? b = some o → h'.get? b = some o)) E) F.called_set.init.plain F.entry_set_init (check_set_init_1 hT ?_)) fun r₂ s₂ hr₂ => ?_
      · obtain ⟨ol, hol, hcl, nl, hdl⟩ := hl
        obtain ⟨ocls, odict, odata, oslots⟩ := ol
        simp only at hcl hdl
        subst hcl; subst hdl
        have hol' : (s.heap.push (setNew w)).get? l = some { cls := .type "tuple", dict := odict, data := .seq items nl, slots := oslots } := Heap.get?_push_of_some _ hol
        have no1 := F.sub_tuple_set
        have no2 := F.sub_tuple_frozenset
        have no3 : (Value.type "tuple" == Value.type "dict") = false := by decide
        have hl1 : (s.heap.push (setNew w)).IsTuple l items := ⟨_, hol', rfl, nl, rfl⟩
        unfold Builtin.«set.__init__» noKeywords Builtin.Frozenset.updateFrom
        generalize hPI : pyIter = PI
        wp_walk
        subst hPI
        refine wpAny_pyIter_tuple hl1 ?_
        refine wpAny_bind (wpAny_runValue ?_)
        have lS : l < s.heap.objs.size := Heap.lt_size hol
        have hh3 : A.in1.in1.in1.handled = none := by simp [hh]
        have neI : l ≠ (s.heap.push (setNew w)).objs.size := by
          rw [Heap.size_push]; exact Nat.ne_of_lt (Nat.lt_succ_of_lt lS)
        have nSf : s.heap.objs.size ∉ [(s.heap.push (setNew w)).objs.size, l] := by
          rw [Heap.size_push]
          simp only [List.mem_cons, List.not_mem_nil, or_false, not_or]
          exact ⟨Nat.ne_of_lt (Nat.lt_succ_self _), Nat.ne_of_gt lS⟩
        have hval : ∀ (i : Nat) (v : Value), items[i]? = some v → ∃ p, ks[i]? = some p ∧ v = .ref p.1 := fun i v hv => by
          have q : items.toList[i]? = some v := by rw [Array.getElem?_toList]; exact hv
          rw [hit, List.getElem?_map] at q
          obtain ⟨p, h3, h4⟩ := Option.map_eq_some_iff.mp q
          exact ⟨p, h3, h4.symm⟩
        have fresh : ∀ b, s.heap.objs.size ≤ b → s.heap.get? b = none := fun b hb => by
          cases q : s.heap.get? b with
          | none => rfl
          | some o => exact absurd (Nat.lt_of_lt_of_le (Heap.lt_size q) hb) (Nat.lt_irrefl _)
        refine set_update_tups ((Walks.tuple hh3 _ l neI items).toS) s.heap.objs.size nSf ks size_ks hfew hval s.heap hk (fresh _ (Nat.le_refl _)) (fun b hb => fresh b (by
            rw [List.mem_singleton.mp hb, Heap.size_push]
            exact Nat.le_succ _)) hu (items.size - 0) 0 _ (by omega) (Nat.zero_le _)
          ⟨⟨_, Heap.get?_push_size _ rfl, rfl, rfl⟩, (hl1.push _)⟩ (fun b o e => Heap.get?_push_of_some _ (Heap.get?_push_of_some _ e)) ?start ?done
        case start =>
          exact ⟨[], #[], 0, _, setTR_fresh (Heap.get?_push_of_some _ hS), Got.zero ks⟩
        case done =>
          intro s' L es ep t hm hS' g' hkp
          obtain ⟨h', g2, d', tk', os'⟩ := s'
          have eg : g2 = s.gens := hm.gens
          have ed : d' = s.drawn := hm.drawn
          have eo : os' = s.os := hm.os
          subst eg; subst ed; subst eo
          show wpAny _ _ _ _ _ _
          refine wpAny_pure ?_
          show wpAny _ _ (ret Value.none) _ _ _
          rw [size_ks] at g'
          exact wpAny_pure ⟨rfl, h', tk', L, es, ep, t, rfl, hS', g', hkp⟩
      · cases r₂ with
        | error e => exact hr₂
        | ok fl₂ =>
          cases fl₂ with
          | ret r =>
            obtain ⟨rfl, h', tk, L, es, ep, t, rfl, hS', g', hk'⟩ := hr₂
            repeat (any_goals (first | assumption | wp_step))
            exact h _ _ _ _ _ _ hS' g' hk'
          | _ => exact hr₂.elim
    | _ => exact hr.elim
end
end Ap

end
section
/-! sorted, min, max of lists and tuples of data. -/
namespace Ap
open PySem PySem.Spec PyProof.Rows L2
open PySem.W (AllAlike EachIs dataLe alike)

section
variable {P : Program} {w : World} {A : Around} {E : Value → Shared → Prop} {s : Shared}
theorem SqO.raw {k : Bool} {h : Heap} {l : Addr} {vs : Array Value} (hl : SqO k h l vs) : ∃ (o : Obj) (T : String) (n0 : Nat), h.get? l = some o ∧ (T = "list" ∨ T = "tuple") ∧ o.cls = .type T ∧ o.data = .seq vs n0 := by
  cases k
  · obtain ⟨o, ho, hc, n, hd⟩ := (hl : h.IsTuple l vs)
    exact ⟨o, "tuple", n, ho, .inr rfl, hc, hd⟩
  · obtain ⟨o, ho, hc, n, hd⟩ := (hl : h.IsList l vs)
    exact ⟨o, "list", n, ho, .inl rfl, hc, hd⟩
theorem sorted_sq {k : Bool} {l : Addr} {vs : List Value} {ds : List D} {R : Value → D → Prop} {Q : Value → Shared → Prop} (hl : SqO k s.heap l vs.toArray) (e : EachIs R vs ds) (er : EachIs (fun v d => ∃ as, Reads s.heap v d as) vs ds) (hal : AllAlike ds) (hk : PySem.W.Sortable ds) (hL : ds.length ≤ sizeLine)
    (hu : ∀ d ∈ ds, A.units + 2 + d.depth < cLine)
    (h : ∀ (out : List Value) (h1 h' : Heap) (p : Addr) (n : Nat), (∀ b o, s.heap.get? b = some o → h1.get? b = some o) → (∀ b o, h1.get? b = some o → h'.get? b = some o) → h1.objs.size ≤ p → h'.get? p = some (seqObj "list" out.toArray n) → out.length = ds.length → EachIs R out (ds.mergeSort (dataLe false id)) → Q (.ref p) { s with heap := h' }) :
    wpAny (model P w) A (call (.builtin "sorted") [.ref l]) Q E s := by
  have hLv : vs.length ≤ sizeLine := by rw [e.length]; exact hL
  obtain ⟨o, T, n0, ho, hT, hc, hd⟩ := hl.raw
  refine call_function_entry_kw kind_sorted plain_sorted entry_sorted (args_sorted1 _) ?_
  unfold Builtin.«sorted»
  refine wpAny_bind (m := checkCount "sorted" 1 1 _) (wpAny_pure ?_)
  refine wpAny_bind (wpAny_collect_seq l hT ho hc hd (fun h1 keep1 => ?_) (by simpa using hLv))
  refine wpAny_bind (wpAny_newList ?_ (by simpa using hLv))
  obtain ⟨h2, eh2⟩ : ∃ h2, h2 = h1.push (seqObj "list" vs.toArray 0) := ⟨_, rfl⟩
  show wpAny _ _ _ _ _ { s with heap := h1.push (seqObj "list" vs.toArray 0) }
  rw [← eh2]
  have hnew : h2.get? h1.objs.size = some (seqObj "list" vs.toArray 0) := by rw [eh2]; exact Heap.get?_push_size _ rfl
  have keep3 : ∀ b o, h1.get? b = some o → b ≠ h1.objs.size ∧ h2.get? b = some o := fun b o q => ⟨Nat.ne_of_lt (Heap.lt_size q), by rw [eh2]; exact Heap.get?_push_of_some _ q⟩
  have keep2 : ∀ b o, s.heap.get? b = some o → (PySem.W.sortingHeap h2 h1.objs.size vs).get? b = some o := fun b o q =>
    PySem.W.sortingHeap_old (keep3 b o (keep1 b o q)).1 (keep3 b o (keep1 b o q)).2
  refine wpAny_bind (wpAny_holding (wpAny_call_entry_kw slot_list_sort ⟨_, hnew, rfl⟩ entry_list_sort ?body (args_list_sort _)))
  case body =>
    have er' : EachIs (fun v d => ∃ as, Reads (PySem.W.sortingHeap h2 h1.objs.size vs) v d as) vs ds := er.mono fun _ _ ⟨as, r⟩ => ⟨as, PyProof.Rows.Reads.keeps keep2 r⟩
    have er2 : EachIs (fun v d => ∃ as, Reads (PySem.W.sortingHeap h2 h1.objs.size vs) v (id d) as) vs ds := er'
    have hal2 : AllAlike (ds.map id) := by rw [List.map_id]; exact hal
    refine PySem.W.list_sort_vals (s := { s with heap := h2 }) (κ := PySem.W.dataKind (PySem.W.sortingHeap h2 h1.objs.size vs) ds) hnew (PySem.W.SortsAt.data (s := { s with heap := PySem.W.sortingHeap h2 h1.objs.size vs }) er' hal hk fun d hd => hu d hd) hLv ?_
    have out := PySem.W.sortVals_data false e er2 hal2
    rw [List.map_id] at out
    refine ⟨_, rfl, wpAny_pure ⟨_, rfl, ?_⟩⟩
    refine h _ h1 _ h1.objs.size _ keep1 (fun b o q => ?_) (Nat.le_refl _) (sortedHeap_at (vs := vs) (out := (PySem.W.sortVals (PySem.W.dataKind (PySem.W.sortingHeap h2 h1.objs.size vs) ds) false vs vs).toArray) hnew).choose_spec ?_ out
    · exact (sortedHeap_old (keep3 b o q).1 (Heap.lt_size (keep3 b o q).2)).trans (keep3 b o q).2
    · rw [PySem.W.sortVals_length false rfl]
      exact e.length
end
theorem DpAll.of_rps {K : PySem.W.Frag} {F H : Hp} {ds : List D} {vs : List V} (h : Rps F ds vs) (s : Same F H) : DpAll K H vs ds := (h.mono s).dp
section
variable {X : Cx} {pins : List (Addr × Obj)} {σ : L2.St} {H F : Hp} {s : Shared}
/-- what frozen values stand for -/
def RpV (F : Hp) (v : Value) (d : D) : Prop := ∃ x, RelV x v ∧ Rp F d x
theorem rps_each : ∀ {ds : List D} {vs : List V} {us : List Value}, Rps F ds vs → Vals vs us → EachIs (RpV F) us ds
  | _, _, _, .nil, .nil => .nil
  | _, _, _, .cons h hs, .cons r rs => .cons ⟨_, r, h⟩ (rps_each hs rs)
theorem each_rps : ∀ {ds : List D} {us : List Value}, EachIs (RpV F) us ds → ∃ vs, Vals vs us ∧ Rps F ds vs
  | _, _, .nil => ⟨[], .nil, .nil⟩
  | _, _, .cons ⟨x, r, h⟩ t => by
    obtain ⟨vs, r1, h1⟩ := each_rps t
    exact ⟨x :: vs, .cons r r1, .cons h h1⟩
theorem each_reads (I : Inv X pins σ H s) (sm : Same F H) : ∀ {ds : List D} {us : List Value}, EachIs (RpV F) us ds → EachIs (fun v d => ∃ as, Reads s.heap v d as) us ds
  | _, _, .nil => .nil
  | _, _, .cons ⟨x, r, h⟩ t => .cons (Dp.reads I _ _ _ (h.mono sm).dp r) (each_reads I sm t)
theorem rps_readsAll (I : Inv X pins σ H s) (sm : Same F H) : ∀ {ds : List D} {vs : List V} {us : List Value}, Rps F ds vs → Vals vs us → ∃ as, ReadsAll s.heap us ds as
  | _, _, _, .nil, .nil => ⟨[], .nil⟩
  | _, _, _, .cons h hs, .cons r rs => by
    obtain ⟨as, r1⟩ := Dp.reads I _ _ _ (h.mono sm).dp r
    obtain ⟨bs, r2⟩ := rps_readsAll I sm hs rs
    exact ⟨as ++ bs, .cons r1 r2⟩
end
/-! ### the operators -/
theorem alikeB_ok {ds : List D} (h : alikeB ds = true) : AllAlike ds := by
  unfold alikeB at h
  simp only [List.all_eq_true] at h
  exact fun d hd e he => h d hd e he
theorem sortable_ok {ds : List D} (h : (ds.all tupCons || ds.all notTupN) = true) : PySem.W.Sortable ds := by
  rcases Bool.or_eq_true_iff.mp h with h | h
  · refine .inl fun d hd => ?_
    have := List.all_eq_true.mp h d hd
    unfold tupCons at this
    split at this
    · exact ⟨_, _, rfl⟩
    · cases this
  · refine .inr fun d hd => ?_
    have := List.all_eq_true.mp h d hd
    refine ⟨fun z => ?_, fun xs z => ?_⟩ <;> (subst z; cases this)
theorem depth_mem {ds : List D} {d : D} (h : d ∈ ds) : d.depth ≤ PyData.depthAll ds := by
  induction ds with
  | nil => cases h
  | cons e ds ih =>
    simp only [PyData.depthAll]
    rcases List.mem_cons.mp h with rfl | h
    · exact Nat.le_max_left _ _
    · exact Nat.le_trans (ih h) (Nat.le_max_right _ _)
theorem insD_split {α : Type} {le : α → α → Bool} {a : α} : ∀ {l1 l2 : List α}, (∀ b ∈ l1, (!le a b) = true) → (∀ b ∈ l2, le a b = true) → insD le a (l1 ++ l2) = l1 ++ a :: l2
  | [], [], _, _ => rfl
  | [], b :: l, _, h => by
    show (if le a b = true then a :: b :: l else b :: insD le a l) = _
    rw [if_pos (h b (List.mem_cons_self ..))]
    rfl
  | b :: l1, l2, h1, h2 => by
    show (if le a b = true then a :: b :: (l1 ++ l2) else b :: insD le a (l1 ++ l2)) = _
    have := h1 b (List.mem_cons_self ..)
    rw [if_neg (by simpa using this), insD_split (fun c hc => h1 c (List.mem_cons_of_mem _ hc)) h2]
    rfl
theorem mergeSort_isort {α : Type} {le : α → α → Bool} (trans : ∀ a b c, le a b = true → le b c = true → le a c = true) (total : ∀ a b, (le a b || le b a) = true) : ∀ l : List α, l.mergeSort le = isort le l
  | [] => by simp [isort]
  | a :: l => by
    obtain ⟨l1, l2, h1, h2, h3⟩ := List.mergeSort_cons trans total a l
    have hs := List.pairwise_mergeSort trans total (a :: l)
    rw [h1] at hs
    rw [h1, isort, ← mergeSort_isort trans total l, h2, insD_split h3]
    intro b hb
    have := (List.pairwise_append.mp hs).2.1
    exact (List.pairwise_cons.mp this).1 b hb
theorem leD_eq : dataLe false (id : D → D) = leD := by
  rw [PySem.W.dataLe_eq]
  rfl
theorem leD_ord : PySem.W.TotalLe leD := by
  rw [← leD_eq]
  exact PySem.W.sortLe_total _ _ _
theorem sort_eq (ds : List D) : ds.mergeSort (dataLe false id) = isort leD ds := by
  rw [leD_eq]
  exact mergeSort_isort (fun a b c => leD_ord.trans a b c) (fun a b => Bool.or_eq_true_iff.mpr (leD_ord.total a b)) ds
def rSortD (K : PySem.W.Frag) : List V → Hp → VK → Prop := fun xs H Q => ∃ (F : Hp) (k : Bool) (a : Addr) (vs : List V) (ds : List D), xs = [.ref a] ∧ Same F H ∧ Sq K H k a vs ∧ Rps F ds vs ∧ sortOk ds = true ∧
  ∀ ys p, H p = none → Rps F (isort leD ds) ys → Q (.ref p) (upd H p (.lst ys))
theorem isort_len {α : Type} (le : α → α → Bool) : ∀ l : List α, (isort le l).length = l.length
  | [] => rfl
  | a :: l => by
    have ins : ∀ (a : α) (l : List α), (insD le a l).length = l.length + 1 := fun a l => by
      induction l with
      | nil => rfl
      | cons b l ih =>
        show (if le a b = true then a :: b :: l else b :: insD le a l).length = _
        split
        · rfl
        · simp [ih]
    show (insD le a (isort le l)).length = _
    rw [ins, isort_len le l]
    rfl
theorem cr_sortD {X : Cx} (hu : X.A.units + 65 < cLine) : CallR X (.builtin "sorted") (rSortD X.K) := by
  intro pins s σ H xs us Q I r h
  obtain ⟨F, k, a, vs, ds, rfl, sm, hq, rp, ok, q⟩ := h
  rw [Vals.ref1 r]
  obtain ⟨its, rv, hl, hz, _⟩ := inv_sq I hq
  unfold sortOk at ok
  simp only [Bool.and_eq_true, decide_eq_true_eq] at ok
  have ea := rps_each rp rv
  refine sorted_sq hl ea (each_reads I sm ea) (alikeB_ok ok.1.1) (sortable_ok ok.1.2) (by rw [rp.length]; exact hz) (fun d hd => by have := depth_mem hd; omega) fun out h1 h' p n k1 k2 hp ho hlen eo => ?_
  rw [sort_eq] at eo
  obtain ⟨ys, ry, rys⟩ := each_rps eo
  have I1 : Inv X pins σ H { s with heap := h1 } := I.kept (t' := s.toks) k1
  have hn : H p = none := I1.hok.fresh hp
  refine ⟨.ref p, upd H p (.lst ys), I1.laid (t' := s.toks) k2 hp ⟨?_, out, n, ry, ho⟩, rfl, q ys p hn rys⟩
  rw [← rys.length, isort_len, rp.length]
  exact hz
/-! min, max -/
theorem bestOk_ok {ds : List D} (h : bestOk ds = true) : PySem.W.AlikeAll ds ∧ PyData.depthAll ds ≤ 60 := by
  unfold bestOk at h
  simp only [Bool.and_eq_true, decide_eq_true_eq, List.all_eq_true] at h
  refine ⟨⟨fun d hd e he => alikeB_ok h.1.1 d hd e he, fun d hd z => ?_⟩, h.2⟩
  have := h.1.2 d hd
  subst z
  cases this
section
variable {X : Cx} {pins : List (Addr × Obj)} {σ : L2.St} {H F : Hp} {s : Shared}
theorem rps_at {ds : List D} {vs : List V} {us : List Value} (h : Rps F ds vs) (r : Vals vs us) {i : Nat} {v : Value} (e : us[i]? = some v) : ∃ d x, ds[i]? = some d ∧ RelV x v ∧ Rp F d x := by
  have hl := r.length
  have hi : i < us.length := (List.getElem?_eq_some_iff.mp e).1
  have hi2 : i < vs.length := by omega
  obtain ⟨u, h1, h2⟩ := r.get (List.getElem?_eq_getElem hi2)
  rw [e] at h1
  cases h1
  obtain ⟨d, h3, h4⟩ := h.getV (List.getElem?_eq_getElem hi2)
  exact ⟨d, _, h3, h2, h4⟩
theorem best_rp (I : Inv X pins σ H s) (sm : Same F H) {ds : List D} {vs : List V} {us : List Value} (h : Rps F ds vs) (r : Vals vs us) {i : Nat} {v : Value} (e : us[i]? = some v) {h' : Heap} {d : D} {bs : List Addr} (rd : Reads h' v d bs) (k : ∀ b o, s.heap.get? b = some o → h'.get? b = some o) : ∃ x, RelV x v ∧ Rp F d x := by
  obtain ⟨d', x, _, h2, h3⟩ := rps_at h r e
  obtain ⟨as, rd'⟩ := Dp.reads I d' x v (h3.mono sm).dp h2
  have rd2 := PyProof.Rows.Reads.keeps k rd'
  obtain ⟨rfl, _⟩ := PySem.Reads.unique rd2 _ _ rd
  exact ⟨x, h2, h3⟩
def rBestD (K : PySem.W.Frag) (best : D → List D → D) : List V → Hp → VK → Prop := fun xs H Q => ∃ (F : Hp) (k : Bool) (a : Addr) (vs : List V) (d : D) (ds : List D), xs = [.ref a] ∧ Same F H ∧ Sq K H k a vs ∧ Rps F (d :: ds) vs ∧ bestOk (d :: ds) = true ∧
  ∀ y, Rp F (best d ds) y → Q y H
theorem cr_minD (hc : X.calm = true) (hu : X.A.units + 65 < cLine) : CallR X (.builtin "min") (rBestD X.K PySem.W.minD) := by
  intro pins s σ H xs us Q I r h
  obtain ⟨F, k, a, vs, d, ds, rfl, sm, hq, rp, ok, q⟩ := h
  rw [Vals.ref1 r]
  obtain ⟨its, rv, hl, hz, _⟩ := inv_sq I hq
  obtain ⟨al, dp⟩ := bestOk_ok ok
  obtain ⟨as, ra⟩ := rps_readsAll I sm rp rv
  have fin : ∀ (i : Nat) v h' tk bs, its.toArray[i]? = some v → Reads h' v (PySem.W.minD d ds) bs → (∀ b o, s.heap.get? b = some o → h'.get? b = some o) → EP X pins σ Q v { s with heap := h', toks := tk } := fun i v h' tk bs e rd k => by
    obtain ⟨x, h1, h2⟩ := best_rp I sm rp rv (i := i) (v := v) (by simpa using e) rd k
    exact ⟨x, H, I.kept (t' := tk) k, h1, q x h2⟩
  cases k with
  | true => exact PySem.W.min_list_data (I.ok.hd hc) hl (by simpa using ra) al (by omega) fin
  | false => exact PySem.W.min_tuple_data (I.ok.hd hc) hl (by simpa using ra) al (by omega) fin
theorem cr_maxD (hc : X.calm = true) (hu : X.A.units + 65 < cLine) : CallR X (.builtin "max") (rBestD X.K PySem.W.maxD) := by
  intro pins s σ H xs us Q I r h
  obtain ⟨F, k, a, vs, d, ds, rfl, sm, hq, rp, ok, q⟩ := h
  rw [Vals.ref1 r]
  obtain ⟨its, rv, hl, hz, _⟩ := inv_sq I hq
  obtain ⟨al, dp⟩ := bestOk_ok ok
  obtain ⟨as, ra⟩ := rps_readsAll I sm rp rv
  have fin : ∀ (i : Nat) v h' tk bs, its.toArray[i]? = some v → Reads h' v (PySem.W.maxD d ds) bs → (∀ b o, s.heap.get? b = some o → h'.get? b = some o) → EP X pins σ Q v { s with heap := h', toks := tk } := fun i v h' tk bs e rd k => by
    obtain ⟨x, h1, h2⟩ := best_rp I sm rp rv (i := i) (v := v) (by simpa using e) rd k
    exact ⟨x, H, I.kept (t' := tk) k, h1, q x h2⟩
  cases k with
  | true => exact PySem.W.max_list_data (I.ok.hd hc) hl (by simpa using ra) al (by omega) fin
  | false => exact PySem.W.max_tuple_data (I.ok.hd hc) hl (by simpa using ra) al (by omega) fin
end
end Ap

end
section
/-! xs[::-1] of lists and tuples. -/
namespace Ap
open PySem PySem.Spec PyProof.Rows L2

section
variable {P : Program} {w : World} {A : Around} {E : Value → Shared → Prop} {s : Shared}
theorem adjust_rev (n : Nat) : Builtin.Slice.sliceAdjust none none (-1) (n : Int) = ((n : Int) - 1, -1) := by
  simp [Builtin.Slice.sliceAdjust]
theorem places_rev (n : Nat) : Builtin.Slice.slicePlaces ((n : Int) - 1) (-1) (-1) = n := by
  simp [Builtin.Slice.slicePlaces]
  omega
theorem applied_rev {sl : Addr} {vl vu vs : Value} {n : Nat} {Q : Int × Int × Nat → Shared → Prop} (hs : s.heap.IsSliceOf sl vl vu vs) (pl : IsPart vl none) (pu : IsPart vu none) (ps : IsPart vs (some (-1)))
    (h : Q ((n : Int) - 1, -1, n) s) : wpAny (model P w) A (Builtin.Slice.sliceApplied (.ref sl) (pure (n : Int))) Q E s := by
  obtain ⟨o, ho, hc, hd⟩ := id hs
  unfold Builtin.Slice.sliceApplied Builtin.Slice.sliceFields
  refine wpAny_bind (wpAny_bind (wpAny_field ho hd (x := vl) rfl (wpAny_bind (wpAny_field ho hd (x := vu) rfl (wpAny_bind (wpAny_field ho hd (x := vs) rfl (wpAny_pure ?_)))))))
  refine wpAny_bind (HT.slicePart_ ps ?_)
  show wpAny _ _ (if ((-1 : Int) == 0) = true then _ else _) _ _ s
  rw [if_neg (by decide)]
  refine wpAny_bind (HT.slicePart_ pl (wpAny_bind (HT.slicePart_ pu (wpAny_bind (wpAny_pure ?_)))))
  show wpAny _ _ (match Builtin.Slice.sliceAdjust none none (-1) (n : Int) with | (lo, hi) => pure (lo, (-1 : Int), Builtin.Slice.slicePlaces lo hi (-1))) _ _ s
  rw [adjust_rev]
  show wpAny _ _ (pure ((n : Int) - 1, (-1 : Int), Builtin.Slice.slicePlaces ((n : Int) - 1) (-1) (-1))) _ _ s
  rw [places_rev]
  exact wpAny_pure h
theorem pick_rev (xs : List Value) : ((List.range xs.length).filterMap fun (m : Nat) => xs.toArray[((xs.length : Int) - 1 + (m : Int) * (-1)).toNat]?) = xs.reverse := by
  have key : ∀ m, m < xs.length → xs.toArray[((xs.length : Int) - 1 + (m : Int) * (-1)).toNat]? = xs.reverse[m]? := fun m hm => by
    have e : ((xs.length : Int) - 1 + (m : Int) * (-1)).toNat = xs.length - 1 - m := by omega
    rw [e, List.getElem?_toArray, List.getElem?_reverse hm]
  have go : ∀ l : List Nat, (∀ m ∈ l, m < xs.length) → l.filterMap (fun (m : Nat) => xs.toArray[((xs.length : Int) - 1 + (m : Int) * (-1)).toNat]?) = l.filterMap (fun m => xs.reverse[m]?) := fun l hl => by
    induction l with
    | nil => rfl
    | cons a l ih =>
      rw [List.filterMap_cons, List.filterMap_cons, key a (hl a (List.mem_cons_self ..)), ih fun m hm => hl m (List.mem_cons_of_mem _ hm)]
  rw [go _ fun m hm => List.mem_range.mp hm]
  have := PySem.W.krv_all (xs.reverse.toArray)
  simpa using this
theorem getItem_rev {t sl : Addr} {items : List Value} {vl vu vs : Value} {Q : Value → Shared → Prop} (ht : IsTup s.heap t items.toArray) (hs : s.heap.IsSliceOf sl vl vu vs) (pl : IsPart vl none) (pu : IsPart vu none) (ps : IsPart vs (some (-1)))
    (h : Q (.ref s.heap.objs.size) { s with heap := s.heap.push { cls := .type "tuple", data := .seq items.reverse.toArray } }) (hsz : items.length ≤ sizeLine) : wpAny (model P w) A (getItem (.ref t) (.ref sl)) Q E s := by
  have fits : sizeOk (.seq items.reverse.toArray) := by
    show items.reverse.toArray.size ≤ sizeLine
    simpa using hsz
  obtain ⟨o, ho, hc, hd⟩ := id hs
  have hT : s.TypeIs (.ref sl) "slice" := ⟨o, ho, hc⟩
  unfold getItem
  try with_reducible refine wpAny_holding ?_
  first | refine wpAny_bind (wpAny_pure ?_) | skip
  refine wpAny_bind (wpAny_sequenceKey ht.typeIs (by decide) ?_)
  refine wpAny_bind (wpAny_callSpecial?_slot (name := Str.ofString "__getitem__") ht.typeIs PyProof.Rows.slot_tuple_getitem (wpAny_call_entry PyProof.Rows.slot_tuple_getitem ht.typeIs PyProof.Rows.entry_tuple_getitem ?_ (PyProof.Rows.args_tuple_getitem _ _)))
  show wpAny _ _ (Builtin.Tuple.tupleItemsOf (.ref t) >>= _) _ _ s
  refine wpAny_bind (PyProof.Rows.tupleItemsOf_ ht ?_)
  refine wpAny_bind (wpAny_typeOf hT ?_)
  rw [if_pos (by decide)]
  refine wpAny_bind (applied_rev hs pl pu ps ?_)
  show wpAny _ _ (if (((items.toArray.size : Int) - 1) == 0 && (-1 : Int) == 1 && items.toArray.size == items.toArray.size) = true then _ else _) _ _ s
  rw [if_neg (by simp)]
  simp only [List.size_toArray]
  rw [pick_rev]
  first
    | exact wpAny_bind (m := Builtin.Tuple.tupleExact _) (wpAny_newObj_type (wpAny_pure ⟨_, rfl, wpAny_pure h⟩) fits)
    | exact wpAny_bind (m := Builtin.Tuple.tupleExact _) (wpAny_newObj_type (wpAny_bind (wpAny_pure (wpAny_pure ⟨_, rfl, wpAny_pure h⟩))) fits)
    | exact wpAny_bind (wpAny_bind (m := Builtin.Tuple.tupleExact _) (wpAny_newObj_type (wpAny_pure (wpAny_pure ⟨_, rfl, wpAny_pure h⟩)) fits))
    | exact wpAny_bind (wpAny_bind (m := Builtin.Tuple.tupleExact _) (wpAny_newObj_type (wpAny_pure ⟨_, rfl, wpAny_pure h⟩) fits))
end
def tRevA (K : PySem.W.Frag) (te : TE) : TE := fun σ H Q => te σ H fun x H1 => ∃ a xs, x = .ref a ∧ ((SqL K H1 a xs ∧ ∀ p, H1 p = none → Q (.ref p) (upd H1 p (.lst xs.reverse))) ∨ (SqT K H1 a xs ∧ NewT H1 xs.reverse Q))
theorem pe_revA {X : Cx} {e : Expr} {te : TE} {k : Nat} {p1 p2 p3 pos : Pos} (he : PE X e te) : PE X (.Subscript e (.Slice none none (some (.UnaryOp .USub (.Constant (.int 1) k p1) p2)) p3) pos) (tRevA X.K te) := by
  refine ⟨fun pins s σ H Q I h => ?_⟩
  refine Subscript_ (thn (he.run pins s σ H _ I h) fun v s1 ⟨x, H1, I1, r1, q1⟩ => ?_)
  obtain ⟨a, xs, ex, q1⟩ := q1
  subst ex
  cases r1
  have step : PO X (some (.UnaryOp .USub (.Constant (.int 1) k p1) p2)) (tPart (tUn (rU fun i => .int (-i)) (tC (.int 1)))) := po_some (pe_un un_neg pe_int)
  refine wpAny_Slice (thn (po_none.run pins s1 σ H1 (fun o H2 => o = none ∧ H2 = H1) I1 ⟨rfl, rfl⟩) fun vl s2 ⟨l, H2, I2, pl, el, e2⟩ => ?_)
  cases el
  cases e2
  refine thn (po_none.run pins s2 σ H1 (fun o H3 => o = none ∧ H3 = H1) I2 ⟨rfl, rfl⟩) fun vu s3 ⟨u, H3, I3, pu, eu, e3⟩ => ?_
  cases eu
  cases e3
  refine thn (step.run pins s3 σ H1 (fun o H4 => o = some (-1) ∧ H4 = H1) I3 ⟨1, rfl, -1, rfl, rfl, rfl⟩) fun vs s4 ⟨o, H4, I4, ps, eo, e4⟩ => ?_
  cases eo
  cases e4
  obtain ⟨hp, ehp⟩ : ∃ hp : Heap, hp = s4.heap.push { cls := .type "slice", data := .fields #[vl, vu, vs] } := ⟨_, rfl⟩
  have I5 : Inv X pins σ H1 { s4 with heap := hp } := I4.kept (t' := s4.toks) fun b ob q => by rw [ehp]; exact Heap.get?_push_of_some _ q
  have hsl : hp.IsSliceOf s4.heap.objs.size vl vu vs := by rw [ehp]; exact Heap.IsSliceOf.new _ vl vu vs
  show wpAny (model X.prog X.w) X.A (subscriptTail e (.Slice none none (some (.UnaryOp .USub (.Constant (.int 1) k p1) p2)) p3) (.ref a) (.ref s4.heap.objs.size)) (EP X pins σ Q) X.xe { s4 with heap := s4.heap.push { cls := .type "slice", data := .fields #[vl, vu, vs] } }
  rw [← ehp]
  rcases q1 with ⟨hx, q⟩ | ⟨hx, q⟩
  · obtain ⟨its, r, ht, hz⟩ := I5.list hx
    have hlen := r.length
    refine tail_any (ops := [.ref a, .ref s4.heap.objs.size]) ht.isList.typeIs (PySem.slot_list_getitem.lookup) ?_ (by with_unfolding_all rfl)
    refine wpAny_getItem_list_slice ht.isList hsl pl pu ps (by decide) ?_ (by rw [List.size_toArray]; omega)
    rw [PySem.W.krv_pick]
    refine ⟨.ref _, _, I5.laid (t' := s4.toks) (o := .lst xs.reverse) (fun b ob q => Heap.get?_push_of_some _ q) (Nat.le_refl _) ?_, rfl, q _ (I5.hok.fresh (Nat.le_refl _))⟩
    exact ⟨by simpa using hz, _, 0, r.reverse, Heap.get?_push_size _ rfl⟩
  · obtain ⟨its, r, ht, hz⟩ := I5.tuple hx
    have hlen := r.length
    refine tail_any (ops := [.ref a, .ref s4.heap.objs.size]) ht.typeIs (PyProof.Rows.slot_tuple_getitem.lookup) ?_ (by with_unfolding_all rfl)
    refine getItem_rev ht hsl pl pu ps ?_ (by omega)
    have := lay_tup (tk := s4.toks) (n := 0) I5 r.reverse (by simpa using hz) q
    first | exact this | simpa using this
end Ap

end
section
/-! set, len of it: rules. -/
namespace Ap
open PySem PySem.Spec PyProof.Rows L2
section
variable {X : Cx}
/-- set(xs) -/
def rSetA (K : PySem.W.Frag) (P : Program) (w : World) : List V → Hp → VK → Prop := fun xs H Q => ∃ (k : Bool) (l : Addr) (ks : List (Addr × List Int)), xs = [V.ref l] ∧ Sq K H k l (ks.map fun p => V.ref p.1) ∧ (∀ p ∈ ks, SqT K H p.1 (p.2.map V.int)) ∧ ks.length < 64 ∧
  ∀ a L, H a = none → (∀ p ∈ L, p ∈ ks) → (∀ p ∈ ks, p.2 ∈ L.map (·.2)) → Q (.ref a) (upd H a (SetTO P w a L))
theorem cr_setA (hc : X.calm = true) (hu : X.A.units + 65 < cLine) : CallR X (.type "set") (rSetA X.K X.prog X.w) := by
  intro pins s σ H xs us Q I r h
  obtain ⟨k, l, ks, rfl, hl, hk, hf, q⟩ := h
  cases k with
  | true => exact cr_setOfT hc (by omega) pins s σ H _ us Q I r ⟨l, ks, rfl, hl, hk, hf, q⟩
  | false =>
    rw [Vals.ref1 r]
    obtain ⟨its, rv, pl, hz⟩ := I.tuple (show SqT X.K H l _ from hl)
    have hn : H s.heap.objs.size = none := I.hok.fresh (Nat.le_refl _)
    refine set_of_tup (P := X.prog) (w := X.w) ks (I.ok.hd hc) pl (by simpa using refs_of_vals rv) (fun p hp => I.isT (hk p hp)) hf (by omega) fun h' tk L es ep t R g kp => ?_
    refine ⟨.ref s.heap.objs.size, upd H s.heap.objs.size (SetTO X.prog X.w s.heap.objs.size L), I.laid (t' := tk) kp (Nat.le_refl _) (setTO_new R.t0), rfl, q _ L hn (fun p hp => ?_) fun p hp => ?_⟩
    · exact List.mem_of_mem_take (g.sub p hp)
    · refine g.all p ?_
      rw [List.take_length]
      exact hp
/-- len of it -/
def rLenT (K : PySem.W.Frag) (P : Program) (w : World) : List V → Hp → VK → Prop := fun xs H Q => ∃ (a : Addr) (L : List (Addr × List Int)), xs = [V.ref a] ∧ H a = some (SetTO P w a L) ∧ (∀ p ∈ L, SqT K H p.1 (p.2.map V.int)) ∧ ((L.map (·.2)).Nodup → Q (.int L.length) H)
theorem cr_lenT : CallR X (.builtin "len") (rLenT X.K X.prog X.w) := by
  intro pins s σ H xs us Q I r h
  obtain ⟨a, L, rfl, ha, hk, q⟩ := h
  have R0 : SetT0 X.prog X.w s.heap a L := (I.hok a _ ha).1
  obtain ⟨es, ep, t, R⟩ := R0.full fun p hp => I.isT (hk p hp)
  rw [Vals.ref1 r]
  obtain ⟨o, ho, hex, hd⟩ := R.ob
  have hs := R.size
  have few := R.few
  refine call_len_set ho hex hd R.fits (by omega) ⟨.int es.size, H, I.tok _, ⟨_, rfl⟩, ?_⟩
  rw [hs]
  exact q R.nd
end
/-- each once -/
theorem distinct_len {α : Type} [DecidableEq α] {l m : List α} (nd : m.Nodup) (h1 : ∀ x ∈ m, x ∈ l) (h2 : ∀ x ∈ l, x ∈ m) : m.length = (distinct l).length := by
  have key : ∀ l : List α, (distinct l).Nodup ∧ ∀ x, x ∈ distinct l ↔ x ∈ l := by
    intro l
    induction l with
    | nil => exact ⟨List.nodup_nil, fun x => Iff.rfl⟩
    | cons a l ih =>
      show (if a ∈ l then distinct l else a :: distinct l).Nodup ∧ ∀ x, x ∈ (if a ∈ l then distinct l else a :: distinct l) ↔ _
      split
      · rename_i ha
        refine ⟨ih.1, fun x => ?_⟩
        rw [ih.2, List.mem_cons]
        exact ⟨.inr, fun z => z.elim (fun e => e ▸ ha) id⟩
      · rename_i ha
        refine ⟨List.nodup_cons.mpr ⟨fun z => ha ((ih.2 a).mp z), ih.1⟩, fun x => ?_⟩
        rw [List.mem_cons, List.mem_cons, ih.2]
  obtain ⟨k1, k2⟩ := key l
  have : m.Perm (distinct l) := (List.perm_ext_iff_of_nodup nd k1).mpr fun x => ⟨fun hx => (k2 x).mpr (h1 x hx), fun hx => h2 x ((k2 x).mp hx)⟩
  exact this.length_eq
/-- tuples of ints, where they stand -/
theorem ints_of {F : Hp} : ∀ {ds : List D} {vs : List V} {ns : List Int}, Rps F ds vs → intsD ds = some ns → vs = ns.map V.int := fun h e => h.ints e
theorem tups_of {F : Hp} : ∀ {ds : List D} {vs : List V} {ks : List (List Int)}, Rps F ds vs → tupsD ds = some ks → ∃ ps : List (Addr × List Int), ps.map (·.2) = ks ∧ vs = ps.map (fun p => V.ref p.1) ∧ ∀ p ∈ ps, F p.1 = some (.tup (p.2.map V.int))
  | _, _, _, .nil, e => by
    simp [tupsD] at e
    subst e
    exact ⟨[], rfl, rfl, by simp⟩
  | _, _, _, .cons (d := d) h hs, e => by
    cases h <;> simp only [tupsD, reduceCtorEq] at e
    rename_i a us es h1 h2
    obtain ⟨n, e1, e2⟩ := Option.bind_eq_some_iff.mp e
    obtain ⟨ks, e3, rfl⟩ := Option.map_eq_some_iff.mp e2
    obtain ⟨ps, p1, p2, p3⟩ := tups_of hs e3
    refine ⟨(a, n) :: ps, by simp [p1], by simp [p2], fun p hp => ?_⟩
    rcases List.mem_cons.mp hp with rfl | hp
    · rw [h2.ints e1] at h1
      exact h1.pl (ints_pl _)
    · exact p3 p hp
def tNset (K : PySem.W.Frag) (P : Program) (w : World) (ta : TA) : TE := tCB (rLenT K P w) (tCons (tCB (rSetA K P w) ta) tNil)
end Ap

end
section
/-! Readings: zip, enumerate, sorted, min, max, sets, reversed slices, ranges as lists. -/
namespace Ap
open PySem PySem.Spec PyProof.Rows L2

section
variable {G : Gx} {C : Fx} {W : WX} {F : Nat → FnS} {r r1 r2 : Env} {σ : St} {H H1 : Hp} {Q : VK}
theorem frzs_ok : ∀ {xs : List Vl} {vs : List V} {ds : List D} {r r1 : Env}, EOk C r σ H → VlsOk C r σ H xs vs → frzs r xs = .ok ds r1 → EOk C r1 σ H ∧ Grow C r r1 σ H H ∧ Rps (fz C r1 σ H) ds vs
  | [], _, _, _, _, e, .nil, q => by
    cases q
    exact ⟨e, Same.refl _, .nil⟩
  | x :: xs, _, _, r, r1, e, .cons h t, q => by
    have q : ((frz r x).bind fun d r1 => (frzs r1 xs).bind fun ds r2 => .ok (d :: ds) r2) = _ := q
    cases h1 : frz r x with
    | bad => rw [h1] at q; cases q
    | exc c r2 => rw [h1] at q; cases q
    | ok d r2 =>
      rw [h1, Ap.R.bind_ok] at q
      obtain ⟨e2, g2, rp⟩ := frz_ok e h h1
      cases h2 : frzs r2 xs with
      | bad => rw [h2] at q; cases q
      | exc c r3 => rw [h2] at q; cases q
      | ok ds r3 =>
        rw [h2, Ap.R.bind_ok] at q
        cases q
        obtain ⟨e3, g3, rps⟩ := frzs_ok e2 (VlsOk.grow t g2) h2
        exact ⟨e3, g2.trans g3, .cons (rp.mono g3) rps⟩
theorem frz_noexc {x : Vl} {c : Nat} (h : frz r x = .exc c r1) : False := by
  unfold frz at h
  cases x with
  | own i => simp only at h; split at h <;> cases h
  | _ => cases h
theorem frzs_noexc : ∀ {xs : List Vl} {r r1 : Env} {c : Nat}, frzs r xs = .exc c r1 → False
  | [], _, _, _, h => by cases h
  | x :: xs, r, r1, c, h => by
    have h : ((frz r x).bind fun d r1 => (frzs r1 xs).bind fun ds r2 => .ok (d :: ds) r2) = _ := h
    cases h1 : frz r x with
    | bad => rw [h1] at h; cases h
    | exc c r2 => exact frz_noexc h1
    | ok d r2 =>
      rw [h1, Ap.R.bind_ok] at h
      cases h2 : frzs r2 xs with
      | bad => rw [h2] at h; cases h
      | exc c r3 => exact frzs_noexc h2
      | ok ds r3 => rw [h2, Ap.R.bind_ok] at h; cases h
/-- a frozen list or tuple -/
theorem seqD_ok {K : PySem.W.Frag} {Fh : Hp} {d : D} {ds : List D} {v : V} (rp : Rp Fh d v) (h : seqD d = some ds) : ∃ k a vs, v = .ref a ∧ (∀ H, Same Fh H → Sq K H k a vs) ∧ Rps Fh ds vs := by
  unfold seqD at h
  split at h
  · cases h
    cases rp with
    | lst h1 h2 => exact ⟨true, _, _, rfl, fun H s => .of (s _ _ h1), h2⟩
  · cases h
    cases rp with
    | tup h1 h2 => exact ⟨false, _, _, rfl, fun H s => (h1.mono s).sq, h2⟩
  · cases h
theorem zip2_get : ∀ {as bs : List D} {i : Nat} {d : D}, (zip2 as bs)[i]? = some d → ∃ a b, as[i]? = some a ∧ bs[i]? = some b ∧ d = .tuple [a, b]
  | [], _, _, _, h => by simp [zip2] at h
  | _ :: _, [], _, _, h => by simp [zip2] at h
  | a :: as, b :: bs, 0, d, h => by simp [zip2] at h; exact ⟨a, b, rfl, rfl, h.symm⟩
  | a :: as, b :: bs, i + 1, d, h => by
    obtain ⟨x, y, h1, h2, h3⟩ := zip2_get (as := as) (bs := bs) (i := i) (by simpa [zip2] using h)
    exact ⟨x, y, by simpa using h1, by simpa using h2, h3⟩
theorem zip2_len : ∀ (as bs : List D), (zip2 as bs).length = min as.length bs.length
  | [], _ => by simp [zip2]
  | _ :: _, [] => by simp [zip2]
  | a :: as, b :: bs => by simp [zip2, zip2_len as bs]
theorem zip3_get : ∀ {as bs cs : List D} {i : Nat} {d : D}, (zip3 as bs cs)[i]? = some d → ∃ a b c, as[i]? = some a ∧ bs[i]? = some b ∧ cs[i]? = some c ∧ d = .tuple [a, b, c]
  | [], _, _, _, _, h => by simp [zip3] at h
  | _ :: _, [], _, _, _, h => by simp [zip3] at h
  | _ :: _, _ :: _, [], _, _, h => by simp [zip3] at h
  | a :: as, b :: bs, c :: cs, 0, d, h => by simp [zip3] at h; exact ⟨a, b, c, rfl, rfl, rfl, h.symm⟩
  | a :: as, b :: bs, c :: cs, i + 1, d, h => by
    obtain ⟨x, y, z, h1, h2, h3, h4⟩ := zip3_get (as := as) (bs := bs) (cs := cs) (i := i) (by simpa [zip3] using h)
    exact ⟨x, y, z, by simpa using h1, by simpa using h2, by simpa using h3, h4⟩
theorem zip3_len : ∀ (as bs cs : List D), (zip3 as bs cs).length = min (min as.length bs.length) cs.length
  | [], _, _ => by simp [zip3]
  | _ :: _, [], _ => by simp [zip3]
  | _ :: _, _ :: _, [] => by simp [zip3]
  | a :: as, b :: bs, c :: cs => by simp [zip3, zip3_len as bs cs]
theorem enum_get : ∀ {as : List D} {n i : Nat} {d : D}, (enumFrom n as)[i]? = some d → ∃ a, as[i]? = some a ∧ d = .tuple [.int ((n + i : Nat) : Int), a]
  | [], _, _, _, h => by simp [enumFrom] at h
  | a :: as, n, 0, d, h => by simp [enumFrom] at h; exact ⟨a, rfl, h.symm⟩
  | a :: as, n, i + 1, d, h => by
    obtain ⟨x, h1, h2⟩ := enum_get (as := as) (n := n + 1) (i := i) (by simpa [enumFrom] using h)
    refine ⟨x, by simpa using h1, ?_⟩
    rw [h2]
    congr 3
    omega
theorem enum_len : ∀ (as : List D) (n : Nat), (enumFrom n as).length = as.length
  | [], _ => rfl
  | a :: as, n => by simp [enumFrom, enum_len as (n + 1)]
theorem rps_len_le {Fh : Hp} {ds : List D} {vs : List V} (h : Rps Fh ds vs) (hz : vs.length ≤ sizeLine) : ds.length ≤ sizeLine := by rw [h.length]; exact hz
/-- a new tuple of frozen things -/
theorem rp_new {F0 H : Hp} {T : Addr} {ds : List D} {vs : List V} {ob : Obj} (hd : ob.dict = none) (hT : H T = none) (rp : Rps F0 ds vs) {M : Addr → Prop} (hM : ∀ a, M a → ∃ o, H a = some o) (sm : Same F0 (msk H M)) : Rp (msk (upd H T (labT vs ob)) M) (.tuple ds) (.ref T) := by
  have nT : ¬ M T := fun z => by
    obtain ⟨o, ho⟩ := hM T z
    rw [hT] at ho
    cases ho
  have up : Same (msk H M) (msk (upd H T (labT vs ob)) M) := fun a o q => by
    obtain ⟨z1, z2⟩ := msk_some.mp q
    exact msk_some.mpr ⟨z1, same_upd hT _ _ z2⟩
  exact .tup ⟨ob, hd, msk_some.mpr ⟨nT, upd_same⟩⟩ (rp.mono (sm.trans up))
theorem feeds_z2 {K : PySem.W.Frag} {F0 : Hp} {k1 k2 : Bool} {a b : Addr} {vs ws : List V} {ds es : List D} (h1 : ∀ H, Same F0 H → Sq K H k1 a vs) (h2 : ∀ H, Same F0 H → Sq K H k2 b ws) (r1 : Rps F0 ds vs) (r2 : Rps F0 es ws) : Feeds F0 (Itz2 K k1 k2 a b) (zip2 ds es) := by
  intro H s
  have l1 := r1.length
  have l2 := r2.length
  have lz := zip2_len ds es
  refine ⟨fun i d q => ?_, vs, ws, h1 H s, h2 H s, by omega, by omega, by omega⟩
  obtain ⟨x, y, e1, e2, rfl⟩ := zip2_get q
  obtain ⟨v, g1, p1⟩ := r1.get e1
  obtain ⟨w, g2, p2⟩ := r2.get e2
  refine ⟨⟨vs, ws, v, w, h1 H s, h2 H s, g1, g2⟩, fun z H' yl => ?_⟩
  obtain ⟨T, v', w', ob, hd, rfl, hT, rfl, f1, f2⟩ := yl
  have z1 := f1 vs (h1 H s)
  have z2 := f2 ws (h2 H s)
  rw [g1] at z1
  rw [g2] at z2
  cases z1
  cases z2
  exact ⟨same_upd hT, fun M hM sm => rp_new hd hT (.cons p1 (.cons p2 .nil)) hM sm⟩
theorem feeds_z3 {K : PySem.W.Frag} {F0 : Hp} {k1 k2 k3 : Bool} {a b c : Addr} {vs ws us : List V} {ds es fs : List D} (h1 : ∀ H, Same F0 H → Sq K H k1 a vs) (h2 : ∀ H, Same F0 H → Sq K H k2 b ws) (h3 : ∀ H, Same F0 H → Sq K H k3 c us) (r1 : Rps F0 ds vs) (r2 : Rps F0 es ws) (r3 : Rps F0 fs us) : Feeds F0 (Itz3 K k1 k2 k3 a b c) (zip3 ds es fs) := by
  intro H s
  have l1 := r1.length
  have l2 := r2.length
  have l3 := r3.length
  have lz := zip3_len ds es fs
  refine ⟨fun i d q => ?_, vs, ws, us, h1 H s, h2 H s, h3 H s, by omega, by omega, by omega, by omega⟩
  obtain ⟨x, y, t, e1, e2, e3, rfl⟩ := zip3_get q
  obtain ⟨v, g1, p1⟩ := r1.get e1
  obtain ⟨w, g2, p2⟩ := r2.get e2
  obtain ⟨u, g3, p3⟩ := r3.get e3
  refine ⟨⟨vs, ws, us, v, w, u, h1 H s, h2 H s, h3 H s, g1, g2, g3⟩, fun z H' yl => ?_⟩
  obtain ⟨T, v', w', u', ob, hd, rfl, hT, rfl, f1, f2, f3⟩ := yl
  have z1 := f1 vs (h1 H s)
  have z2 := f2 ws (h2 H s)
  have z3 := f3 us (h3 H s)
  rw [g1] at z1
  rw [g2] at z2
  rw [g3] at z3
  cases z1
  cases z2
  cases z3
  exact ⟨same_upd hT, fun M hM sm => rp_new hd hT (.cons p1 (.cons p2 (.cons p3 .nil))) hM sm⟩
theorem feeds_e2 {K : PySem.W.Frag} {F0 : Hp} {k : Bool} {a : Addr} {vs : List V} {ds : List D} (h1 : ∀ H, Same F0 H → Sq K H k a vs) (r1 : Rps F0 ds vs) : Feeds F0 (Ite2 K k a) (enumFrom 0 ds) := by
  intro H s
  have l1 := r1.length
  have lz := enum_len ds 0
  refine ⟨fun i d q => ?_, vs, h1 H s, by omega⟩
  obtain ⟨x, e1, rfl⟩ := enum_get q
  obtain ⟨v, g1, p1⟩ := r1.get e1
  refine ⟨⟨vs, v, h1 H s, g1⟩, fun z H' yl => ?_⟩
  obtain ⟨T, v', ob, hd, rfl, hT, rfl, f1⟩ := yl
  have z1 := f1 vs (h1 H s)
  rw [g1] at z1
  cases z1
  rw [Nat.zero_add]
  exact ⟨same_upd hT, fun M hM sm => rp_new hd hT (.cons (.int _) (.cons p1 .nil)) hM sm⟩
theorem evs_len : ∀ {es : List Ex} {r r1 : Env} {vs : List Vl}, evs F es r = .ok vs r1 → vs.length = es.length
  | [], _, _, _, h => by rw [evs_nil] at h; cases h; rfl
  | e :: es, r, r1, vs, h => by
    rw [evs_cons] at h
    cases h1 : ev F e r with
    | bad => rw [h1] at h; cases h
    | exc c r2 => rw [h1] at h; cases h
    | ok v r2 =>
      rw [h1, Ap.R.bind_ok] at h
      cases h2 : evs F es r2 with
      | bad => rw [h2] at h; cases h
      | exc c r3 => rw [h2] at h; cases h
      | ok ws r3 =>
        rw [h2, Ap.R.bind_ok] at h
        cases h
        simp [evs_len h2]
theorem rd_zip2 {e e' : Ex} {R : L2.It → Hp → Prop} (q : tIt G F W (.zip [e, e']) σ H R) : iZip2 G.K (tEvs G F W [e, e']) σ H R := by
  obtain ⟨C, rfl, r, ek, q⟩ := q
  rw [evIt] at q
  refine ⟨C, rfl, r, ek, ?_⟩
  cases h1 : evs F [e, e'] r with
  | bad => rw [h1] at q; exact q.elim
  | exc c r1 => rw [h1] at q; exact q
  | ok xs r1 =>
    rw [h1, Ap.R.bind_ok] at q
    intro vs H1 e1 g1 v1
    cases h2 : frzs r1 xs with
    | bad => rw [h2] at q; exact q.elim
    | exc c r2 => exact (frzs_noexc h2).elim
    | ok ds r2 =>
      rw [h2, Ap.R.bind_ok] at q
      obtain ⟨e2, g2, rp⟩ := frzs_ok e1 v1 h2
      have hl : ds.length = 2 := by rw [rp.length, ← Paired.length v1]; exact evs_len h1
      match ds, hl, rp, q with
      | [d, d'], _, .cons p1 (.cons p2 .nil), q =>
        cases h3 : seqD d with
        | none => simp only [zipItems, h3] at q; exact q.elim
        | some as =>
          cases h4 : seqD d' with
          | none => simp only [zipItems, h3, h4] at q; exact q.elim
          | some bs =>
            simp only [zipItems, h3, h4] at q
            have q : ∀ J H', EOk C r2 σ H' → Grow C r r2 σ H H' → Feeds (fz C r2 σ H') J (zip2 as bs) → (zip2 as bs).length ≤ sizeLine → R J H' := q
            obtain ⟨k1, a, us, rfl, s1, w1⟩ := seqD_ok (K := C.K) p1 h3
            obtain ⟨k2, b, ws, rfl, s2, w2⟩ := seqD_ok (K := C.K) p2 h4
            refine ⟨k1, k2, a, b, us, ws, rfl, s1 _ msk_same, s2 _ msk_same, fun z1 z2 => q _ H1 e2 (g1.trans g2) (feeds_z2 s1 s2 w1 w2) ?_⟩
            have := w1.length
            rw [zip2_len]
            omega
theorem rd_zip3 {e e' e'' : Ex} {R : L2.It → Hp → Prop} (q : tIt G F W (.zip [e, e', e'']) σ H R) : iZip3 G.K (tEvs G F W [e, e', e'']) σ H R := by
  obtain ⟨C, rfl, r, ek, q⟩ := q
  rw [evIt] at q
  refine ⟨C, rfl, r, ek, ?_⟩
  cases h1 : evs F [e, e', e''] r with
  | bad => rw [h1] at q; exact q.elim
  | exc c r1 => rw [h1] at q; exact q
  | ok xs r1 =>
    rw [h1, Ap.R.bind_ok] at q
    intro vs H1 e1 g1 v1
    cases h2 : frzs r1 xs with
    | bad => rw [h2] at q; exact q.elim
    | exc c r2 => exact (frzs_noexc h2).elim
    | ok ds r2 =>
      rw [h2, Ap.R.bind_ok] at q
      obtain ⟨e2, g2, rp⟩ := frzs_ok e1 v1 h2
      have hl : ds.length = 3 := by rw [rp.length, ← Paired.length v1]; exact evs_len h1
      match ds, hl, rp, q with
      | [d, d', d''], _, .cons p1 (.cons p2 (.cons p3 .nil)), q =>
        cases h3 : seqD d with
        | none => simp only [zipItems, h3] at q; exact q.elim
        | some as =>
          cases h4 : seqD d' with
          | none => simp only [zipItems, h3, h4] at q; exact q.elim
          | some bs =>
            cases h5 : seqD d'' with
            | none => simp only [zipItems, h3, h4, h5] at q; exact q.elim
            | some cs =>
              simp only [zipItems, h3, h4, h5] at q
              have q : ∀ J H', EOk C r2 σ H' → Grow C r r2 σ H H' → Feeds (fz C r2 σ H') J (zip3 as bs cs) → (zip3 as bs cs).length ≤ sizeLine → R J H' := q
              obtain ⟨k1, a, us, rfl, s1, w1⟩ := seqD_ok (K := C.K) p1 h3
              obtain ⟨k2, b, ws, rfl, s2, w2⟩ := seqD_ok (K := C.K) p2 h4
              obtain ⟨k3, c, ts, rfl, s3, w3⟩ := seqD_ok (K := C.K) p3 h5
              refine ⟨k1, k2, k3, a, b, c, us, ws, ts, rfl, s1 _ msk_same, s2 _ msk_same, s3 _ msk_same, fun z1 => q _ H1 e2 (g1.trans g2) (feeds_z3 s1 s2 s3 w1 w2 w3) ?_⟩
              have := w1.length
              rw [zip3_len]
              omega
theorem rd_enum {e : Ex} {R : L2.It → Hp → Prop} (q : tIt G F W (.enum e) σ H R) : iEnum2 G.K (tEvs G F W [e]) σ H R := by
  obtain ⟨C, rfl, r, ek, q⟩ := q
  rw [evIt] at q
  refine ⟨C, rfl, r, ek, ?_⟩
  rw [evs_cons]
  cases h1 : ev F e r with
  | bad => rw [h1] at q; exact q.elim
  | exc c r1 => rw [h1] at q; exact q
  | ok x r1 =>
    rw [h1, Ap.R.bind_ok] at q
    rw [Ap.R.bind_ok, evs_nil, Ap.R.bind_ok]
    intro vs H1 e1 g1 v1
    cases v1 with
    | cons v1 t =>
      cases t
      cases h2 : frz r1 x with
      | bad => rw [h2] at q; exact q.elim
      | exc c r2 => exact (frz_noexc h2).elim
      | ok d r2 =>
        rw [h2, Ap.R.bind_ok] at q
        obtain ⟨e2, g2, rp⟩ := frz_ok e1 v1 h2
        unfold enumItems at q
        cases h3 : seqD d with
        | none => rw [h3] at q; exact q.elim
        | some as =>
          rw [h3] at q
          have q : ∀ J H', EOk C r2 σ H' → Grow C r r2 σ H H' → Feeds (fz C r2 σ H') J (enumFrom 0 as) → (enumFrom 0 as).length ≤ sizeLine → R J H' := q
          obtain ⟨k1, a, us, rfl, s1, w1⟩ := seqD_ok (K := C.K) rp h3
          refine ⟨k1, a, us, rfl, s1 _ msk_same, fun z1 => q _ H1 e2 (g1.trans g2) (feeds_e2 s1 w1) ?_⟩
          rw [enum_len]
          exact rps_len_le w1 z1
/-! ### operators -/
/-- a list (owned or not) or a tuple -/
theorem Od.sq {d : D} {x : V} {ds : List D} (h : Od C r σ H d x) (hs : seqD d = some ds) : ∃ k a vs, x = .ref a ∧ Sq C.K H k a vs ∧ Rps (fz C r σ H) ds vs := by
  unfold seqD at hs
  split at hs
  · cases hs
    obtain ⟨a, vs, rfl, h1, h2⟩ := h.list
    exact ⟨true, a, vs, rfl, .of h1, h2⟩
  · cases hs
    obtain ⟨a, vs, rfl, h1, h2⟩ := h.tuple
    exact ⟨false, a, vs, rfl, h1.at, h2⟩
  · cases hs
theorem p_sorted : PrimN C .sorted (rSortD C.K) := by
  intro r σ H as d xs Q e ha hp q
  have key : ∀ (a0 : D) (ds : List D), seqD a0 = some ds → sortD ds = some d → ∀ x, Od C r σ H a0 x → rSortD C.K [x] H Q := fun a0 ds h1 h2 x h => by
    unfold sortD at h2
    split at h2
    · rename_i hok
      cases h2
      obtain ⟨k, a, vs, rfl, z1, z2⟩ := h.sq h1
      exact ⟨_, k, a, vs, ds, rfl, msk_same, z1, z2, hok, fun ys p hn rp => q.lst e rp hn⟩
    · cases h2
  match as, xs, ha, hp with
  | [.list a], [x], .cons h .nil, hp => exact key _ a rfl hp x h
  | [.tuple a], [x], .cons h .nil, hp => exact key _ a rfl hp x h
theorem p_minl : PrimN C .minl (rBestD C.K PySem.W.minD) := by
  intro r σ H as d xs Q e ha hp q
  have key : ∀ (a0 : D) (ds : List D), seqD a0 = some ds → minO ds = some d → ∀ x, Od C r σ H a0 x → rBestD C.K PySem.W.minD [x] H Q := fun a0 ds h1 h2 x h => by
    unfold minO at h2
    split at h2
    · cases h2
    · split at h2
      · rename_i hok
        cases h2
        obtain ⟨k, a, vs, rfl, z1, z2⟩ := h.sq h1
        exact ⟨_, k, a, vs, _, _, rfl, msk_same, z1, z2, hok, fun y rp => q.at rp⟩
      · cases h2
  match as, xs, ha, hp with
  | [.list a], [x], .cons h .nil, hp => exact key _ a rfl hp x h
  | [.tuple a], [x], .cons h .nil, hp => exact key _ a rfl hp x h
theorem p_maxl : PrimN C .maxl (rBestD C.K PySem.W.maxD) := by
  intro r σ H as d xs Q e ha hp q
  have key : ∀ (a0 : D) (ds : List D), seqD a0 = some ds → maxO ds = some d → ∀ x, Od C r σ H a0 x → rBestD C.K PySem.W.maxD [x] H Q := fun a0 ds h1 h2 x h => by
    unfold maxO at h2
    split at h2
    · cases h2
    · split at h2
      · rename_i hok
        cases h2
        obtain ⟨k, a, vs, rfl, z1, z2⟩ := h.sq h1
        exact ⟨_, k, a, vs, _, _, rfl, msk_same, z1, z2, hok, fun y rp => q.at rp⟩
      · cases h2
  match as, xs, ha, hp with
  | [.list a], [x], .cons h .nil, hp => exact key _ a rfl hp x h
  | [.tuple a], [x], .cons h .nil, hp => exact key _ a rfl hp x h
theorem rd_nset {x : Ex} {P : Program} {w : World} (q : tEv G F W (.prim .nset [x]) σ H Q) : tNset G.K P w (tEvs G F W [x]) σ H Q := by
  obtain ⟨C, rfl, r, e, q⟩ := q
  rw [ev_prim] at q
  refine ⟨C, rfl, r, e, ?_⟩
  cases h1 : evs F [x] r with
  | bad => rw [h1] at q; exact q.elim
  | exc c r1 => rw [h1] at q; exact q
  | ok vs r1 =>
    rw [h1, Ap.R.bind_ok] at q
    intro xs H1 e1 g1 v1
    obtain ⟨ds, d, h3, h4, h5⟩ := (PostE.after q g1).prim e1 v1
    have key : ∀ (a0 : D) (es : List D), seqD a0 = some es → nsetD es = some d → ∀ x, Od C r1 σ H1 a0 x → rSetA C.K P w [x] H1 fun y H2 => rLenT C.K P w [y] H2 Q := fun a0 es z1 z2 x h => by
      unfold nsetD at z2
      obtain ⟨ks, z3, z4⟩ := Option.bind_eq_some_iff.mp z2
      split at z4
      · rename_i hlt
        cases z4
        obtain ⟨k, a, us, rfl, w1, w2⟩ := h.sq z1
        obtain ⟨ps, p1, p2, p3⟩ := tups_of w2 z3
        subst p2
        have hpl : ps.length = ks.length := by rw [← p1, List.length_map]
        refine ⟨k, a, ps, rfl, w1, fun p hp => .of (msk_same _ _ (p3 p hp)), by omega, fun a' L hn l1 l2 => ?_⟩
        refine ⟨a', L, rfl, upd_same, fun p hp => ?_, fun nd => ?_⟩
        · exact .of (same_upd hn _ _ (msk_same _ _ (p3 p (l1 p hp))))
        · have hd : (L.map (·.2)).length = (distinct ks).length := distinct_len nd (fun z hz => by
            obtain ⟨p, hp, rfl⟩ := List.mem_map.mp hz
            rw [← p1]
            exact List.mem_map_of_mem (l1 p hp)) (fun z hz => by
            rw [← p1] at hz
            obtain ⟨p, hp, rfl⟩ := List.mem_map.mp hz
            exact l2 p hp)
          rw [List.length_map] at hd
          rw [hd]
          exact h5 _ _ (same_upd hn) (.int _)
      · cases z4
    match ds, xs, h3, h4 with
    | [.list a], [x], .cons h .nil, h4 => exact key _ a rfl h4 x h
    | [.tuple a], [x], .cons h .nil, h4 => exact key _ a rfl h4 x h
theorem rd_rev {x : Ex} (q : tEv G F W (.prim .rev [x]) σ H Q) : tRevA G.K (tEv G F W x) σ H Q := by
  obtain ⟨C, rfl, r, e, q⟩ := q
  rw [ev_prim, evs_cons] at q
  refine ⟨C, rfl, r, e, ?_⟩
  cases h1 : ev F x r with
  | bad => rw [h1] at q; exact q.elim
  | exc c r1 => rw [h1] at q; exact q
  | ok va r1 =>
    rw [h1, R.bind_ok, evs_nil, R.bind_ok, R.bind_ok] at q
    intro v H1 e1 g1 v1
    obtain ⟨ds, d, h3, h4, h5⟩ := (PostE.after q g1).prim e1 (.cons v1 .nil)
    match ds, h3, h4 with
    | [a], .cons i .nil, h4 =>
      have h4 : revD a = some d := h4
      unfold revD at h4
      split at h4
      · cases h4
        obtain ⟨b, vs, rfl, z1, z2⟩ := i.list
        exact ⟨b, vs, rfl, .inl ⟨.of z1, fun p hp => h5.lst e1 z2.reverse hp⟩⟩
      · cases h4
        obtain ⟨b, vs, rfl, z1, z2⟩ := i.tuple
        exact ⟨b, vs, rfl, .inr ⟨z1.at, h5.tup e1 z2.reverse⟩⟩
      · cases h4
theorem rps_range {Fh : Hp} : ∀ (n : Nat) (lo : Int), Rps Fh (rangeD lo n) ((List.range n).map fun i => V.int (lo + (i : Nat)))
  | 0, _ => .nil
  | n + 1, lo => by
    rw [rangeD, List.range_succ_eq_map, List.map_cons, List.map_map]
    refine .cons ?_ ?_
    · rw [Int.natCast_zero, Int.add_zero]
      exact .int _
    · have := rps_range (Fh := Fh) n (lo + 1)
      have e : ((fun i : Nat => V.int (lo + (i : Nat))) ∘ Nat.succ) = fun i : Nat => V.int (lo + 1 + (i : Nat)) := by
        funext i
        simp only [Function.comp, Nat.succ_eq_add_one, Int.natCast_add, Int.natCast_one, V.int.injEq]
        omega
      rw [e]
      exact this
theorem rg_pl (a b : Int) : (rgV a b).all plV = true := by
  unfold rgV
  rw [List.all_map]
  exact List.all_eq_true.mpr fun _ _ => rfl
theorem rngO_ok {n : Int} {ds : List D} {Fh : Hp} (h : rngO n = some ds) : RgOk 0 n ∧ Rps Fh ds (rgV 0 n) := by
  unfold rngO at h
  split at h
  · rename_i hn
    cases h
    refine ⟨.of_le (by omega) (by omega) (by omega) hn.1, ?_⟩
    have := rps_range (Fh := Fh) n.toNat 0
    unfold rgV
    rw [Int.sub_zero]
    exact this
  · cases h
theorem rd_rngL {x : Ex} (q : tEv G F W (.prim .rngL [x]) σ H Q) : tLstRg (tRg1 (tEv G F W x)) σ H Q := by
  obtain ⟨C, rfl, r, e, q⟩ := q
  rw [ev_prim, evs_cons] at q
  refine ⟨C, rfl, r, e, ?_⟩
  cases h1 : ev F x r with
  | bad => rw [h1] at q; exact q.elim
  | exc c r1 => rw [h1] at q; exact q
  | ok va r1 =>
    rw [h1, R.bind_ok, evs_nil, R.bind_ok, R.bind_ok] at q
    intro v H1 e1 g1 v1
    obtain ⟨ds, d, h3, h4, h5⟩ := (PostE.after q g1).prim e1 (.cons v1 .nil)
    match ds, h3, h4 with
    | [.int n], .cons i .nil, h4 =>
      obtain ⟨es, z1, rfl⟩ := Option.map_eq_some_iff.mp (show (rngO n).map PyData.list = some d from h4)
      obtain ⟨z2, z3⟩ := rngO_ok (Fh := fz C r1 σ H1) z1
      exact ⟨n, i.int, z2, fun p hp => h5.lst e1 z3 hp⟩
theorem rd_rngT {x : Ex} (q : tEv G F W (.prim .rngT [x]) σ H Q) : tTupRg (tRg1 (tEv G F W x)) σ H Q := by
  obtain ⟨C, rfl, r, e, q⟩ := q
  rw [ev_prim, evs_cons] at q
  refine ⟨C, rfl, r, e, ?_⟩
  cases h1 : ev F x r with
  | bad => rw [h1] at q; exact q.elim
  | exc c r1 => rw [h1] at q; exact q
  | ok va r1 =>
    rw [h1, R.bind_ok, evs_nil, R.bind_ok, R.bind_ok] at q
    intro v H1 e1 g1 v1
    obtain ⟨ds, d, h3, h4, h5⟩ := (PostE.after q g1).prim e1 (.cons v1 .nil)
    match ds, h3, h4 with
    | [.int n], .cons i .nil, h4 =>
      obtain ⟨es, z1, rfl⟩ := Option.map_eq_some_iff.mp (show (rngO n).map PyData.tuple = some d from h4)
      obtain ⟨z2, z3⟩ := rngO_ok (Fh := fz C r1 σ H1) z1
      exact ⟨n, i.int, z2, fun p hp => (by
        have := h5.tup e1 z3 p { cls := .type "tuple", data := .plain } hp rfl
        rw [labT_pl (rg_pl 0 n)] at this
        exact this)⟩
end
end Ap

end
section
/-! t.index(x) of a tuple that holds more than ints and texts. -/
namespace Ap
open PySem PySem.Spec PyProof.Rows L2

def rIdxT (K : PySem.W.Frag) : V → List V → Hp → VK → Prop := fun x xs H Q => ∃ (a : Addr) (y : V) (d : PyData) (vs : List V) (ds : List PyData) (j : Nat), x = .ref a ∧ xs = [y] ∧ SqT K H a vs ∧ DpAll K H vs ds ∧ Dp K H y d ∧
  SeqAt.shaped (.list ds) = true ∧ SeqAt.shaped d = true ∧ placeD ds d = some j ∧ Q (.int (j : Nat)) H
theorem mt_idxT {X : Cx} (hu : X.A.units + 65 < cLine) : MtR X "tuple.index" (rIdxT X.K) := by
  intro pins s σ H x xs v us Q I rx rxs h
  obtain ⟨a, y, d, vs, ds, j, rfl, rfl, hs, ha, hy, sl, sd, hj, q⟩ := h
  cases rx
  obtain ⟨u, rfl, ru⟩ := Vals.one rxs
  obtain ⟨bs, r1⟩ := Dp.reads I d y u hy ru
  have lay : PyData.canLayAll0 ds = true := SeqAt.canLay_of_shaped sl
  have room : X.A.units + 1 + min (PyData.depthAll ds) d.depth < cLine := room_in_shaped sd hu
  obtain ⟨its, rv, ⟨⟨oc, od, dt, os⟩, ho, c1, cap, c2⟩, hz⟩ := I.tuple hs
  simp only at c1 c2
  subst c1 c2
  obtain ⟨as, r2⟩ := Dp.readsAll I ds vs its ha rv
  have hn : its.length = ds.length := SeqAt.ReadsAll.length ds its as r2
  have hmap : its.map (SeqAt.readOf s.heap) = ds := SeqAt.readsAll_map ds its as lay r2
  obtain ⟨hjd, hit, hno⟩ := List.findIdx?_eq_some_iff_getElem.mp hj
  have hji : j < its.toArray.size := by rw [List.size_toArray, hn]; exact hjd
  have at_ : ∀ (m : Nat) (hm : m < its.toArray.size) (hd : m < ds.length), SeqAt.readOf s.heap its.toArray[m] = ds[m] := fun m hm hd => by
    have hml : m < its.length := by rw [hn]; exact hd
    have e : (its.map (SeqAt.readOf s.heap))[m]? = ds[m]? := by rw [hmap]
    rw [List.getElem?_map, List.getElem?_eq_getElem hml, List.getElem?_eq_getElem hd] at e
    have e2 := Option.some.inj e
    simpa using e2
  have eqs := SeqAt.items_eqAt (s := s) (A := X.A) (vs := its.toArray) (show ReadsAll s.heap its.toArray.toList ds as from r2) r1 lay (SeqAt.canLay_of_shaped sd) room
  have find := SeqAt.tuple_index2_found a its.toArray cap od os u (fun m => match its.toArray[m]? with | some w => PyData.eqv (SeqAt.readOf s.heap w) d | none => false) j hji (Nat.zero_le _) hji
    (by
      show (match its.toArray[j]? with | some w => PyData.eqv (SeqAt.readOf s.heap w) d | none => false) = true
      rw [Array.getElem?_eq_getElem hji]
      show PyData.eqv (SeqAt.readOf s.heap its.toArray[j]) d = true
      rw [at_ j hji hjd]
      exact hit)
    (fun m hm _ hmj => by
      show (match its.toArray[m]? with | some w => PyData.eqv (SeqAt.readOf s.heap w) d | none => false) = false
      rw [Array.getElem?_eq_getElem hm]
      show PyData.eqv (SeqAt.readOf s.heap its.toArray[m]) d = false
      rw [at_ m hm (by omega)]
      simpa using hno m hmj)
  refine call_meets F.slot_tuple_index ⟨_, ho, rfl⟩ F.entry_tuple_index (F.args_tuple_index_2 _ _) find ⟨ho, fun m hm => ?_, ⟨.int (j : Nat), H, I.tok _, ⟨_, rfl⟩, q⟩⟩
  have := eqs its.toArray[m] (Array.getElem_mem hm)
  simp only [Array.getElem?_eq_getElem hm]
  exact this
/-- o.index(e) -/
def tTix (K : PySem.W.Frag) (to : TE) (t : TA) : TE := fun σ H Q => to σ H fun x H1 => (∃ (a : Addr) (o : Obj) (vs : List V), x = .ref a ∧ H1 a = some (.frz o (.tup vs)) ∧ o.dict = none) ∧ t σ H1 fun xs H2 => rIdxT K x xs H2 Q
theorem pe_tix {X : Cx} {o e : Expr} {to : TE} {t : TA} {apos cpos : Pos} (hu : X.A.units + 65 < cLine) (ho : PE X o to) (ha : PA X [e] t) (hbase : attributeBase o "index" X.env (eval o X.env) = eval o X.env)
    (hfew : ((backTo cpos (starEach [e] X.env)).all (fun x => !x.1) && (backToKw cpos (keywordEach [] X.env)).all (fun x => x.1.isSome) && decide ([e].length + ([] : List Keyword).length + (if ([] : List Keyword).isEmpty then 0 else 1) < 30)) = true)
    (hline : (apos.endLine == cpos.line) = true) (hs : starEach [e] X.env = [(false, eval e X.env)]) : PE X (.Call (.Attribute o "index" apos) [e] [] cpos) (tTix X.K to t) := by
  refine ⟨fun pins s σ H Q I h => ?_⟩
  refine wpAny_Call_method_late hbase hfew hline rfl (thn (ho.run pins s σ H _ I h) fun v s1 z => ?_)
  obtain ⟨x, H1, J, rx, ⟨a, ob, vs, rfl, hl, hd⟩, q⟩ := z
  cases rx
  obtain ⟨get, _, its, _, ob2, get2, hc, _⟩ := (show ObjOk X.prog X.w H1 s1.heap a (.frz ob (.tup vs)) from J.hok a _ hl)
  rw [get] at get2
  cases get2
  refine ⟨"tuple", "tuple.index", F.plainAttrs_tuple, F.slot_tuple_index, F.type_tuple_index, ⟨ob, get, hc⟩, fun b e => ?_, ?_⟩
  · cases e
    exact ⟨ob, get, hd⟩
  have run := ha.run cpos pins s1 σ H1 _ J q
  rw [hs] at run ⊢
  refine Calls.callWith_builtin rfl (Calls.evalArgs_plain ?_)
  exact thn run fun us s2 ⟨ws, H2, J2, rw2, q2⟩ => mt_idxT hu pins s2 σ H2 (.ref a) ws _ us Q J2 rfl rw2 q2
theorem Rps.pl {F : Hp} : ∀ {ds : List D} {vs : List V}, Rps F ds vs → vs.all plV = ds.all plD
  | _, _, .nil => rfl
  | _, _, .cons h t => by
    rw [List.all_cons, List.all_cons, t.pl]
    cases h <;> rfl
section
variable {G : Gx} {F : Nat → FnS} {W : WX} {σ : St} {H : Hp} {Q : VK}
theorem rd_tix {x y : Ex} (q : tEv G F W (.tix x y) σ H Q) : tTix G.K (tEv G F W x) (tCons (tEv G F W y) tNil) σ H Q := by
  obtain ⟨C, rfl, r, e, q⟩ := q
  rw [ev] at q
  refine ⟨C, rfl, r, e, ?_⟩
  cases h1 : ev F x r with
  | bad => rw [h1] at q; exact q.elim
  | exc c r1 => rw [h1] at q; exact q
  | ok va r1 =>
    rw [h1, R.bind_ok] at q
    intro v H1 e1 g1 v1
    cases va with
    | dat d =>
      have q1 : PostE C W r σ H Q ((R.of (tixT d) r1).bind fun ds _ => (ev F y r1).bind fun w r2 => (asDat w r2).bind fun x _ => (R.of (indexT ds x) r2).bind fun i _ => .ok (.dat i) r2) := q
      clear q
      cases h2 : tixT d with
      | none => rw [h2] at q1; exact q1.elim
      | some ds =>
        rw [h2, R.of_some, R.bind_ok] at q1
        unfold tixT at h2
        split at h2
        · rename_i es
          split at h2
          · cases h2
          · rename_i hpl
            cases h2
            have v1 : Rp (fz C r1 σ H1) (.tuple ds) v := v1
            cases v1 with
            | @tup a vs _ hF hR =>
              obtain ⟨o, hd, hl⟩ := hF
              have hnp : ¬ (vs.all plV = true) := by rw [hR.pl]; exact hpl
              unfold labT at hl
              rw [if_neg hnp] at hl
              refine ⟨⟨a, o, vs, rfl, (msk_some.mp hl).2, hd⟩, C, rfl, r1, e1, ?_⟩
              cases h3 : ev F y r1 with
              | bad => rw [h3] at q1; exact q1.elim
              | exc c r2 => rw [h3] at q1; exact q1
              | ok w r2 =>
                rw [h3, R.bind_ok] at q1
                intro u H2 e2 g2 v2
                cases w with
                | dat x =>
                  have q2 : PostE C W r σ H Q ((R.of (indexT ds x) r2).bind fun i _ => .ok (.dat i) r2) := q1
                  cases h4 : indexT ds x with
                  | none => rw [h4] at q2; exact q2.elim
                  | some i =>
                    rw [h4, R.of_some, R.bind_ok] at q2
                    unfold indexT at h4
                    split at h4
                    · rename_i hsh
                      rw [Bool.and_eq_true] at hsh
                      obtain ⟨j, hj, rfl⟩ := Option.map_eq_some_iff.mp h4
                      have v2 : Rp (fz C r2 σ H2) x u := v2
                      refine ⟨a, u, x, vs, ds, j, rfl, rfl, .inl (.inr ⟨o, (msk_some.mp (g2 a _ hl)).2⟩), ((hR.mono g2).mono msk_same).dp, (v2.mono msk_same).dp, hsh.1, hsh.2, hj, q2 _ H2 e2 (g1.trans g2) (.int _)⟩
                    · cases h4
                | own i => exact q1.elim
                | fn k => exact q1.elim
                | scr ns => exact q1.elim
        · cases h2
    | own i => exact q.elim
    | fn k => exact q.elim
    | scr ns => exact q.elim
end
end Ap

end
section
/-! sum(lists, []). -/
namespace Ap
open PySem PySem.Spec PyProof.Rows L2

section
variable {prog : Program} {w : World} {A : Around} {R : Result → Shared → Prop}
theorem sum_loopL (hh : A.handled = none) {I ax S : Addr} (hax : ax ≠ I) (hSI : S ≠ I) (hSx : S ≠ ax) (hIS : I ≤ S) {its : List Value} (ad : Nat → Addr) (ls : Nat → List Value)
    (hval : ∀ (i : Nat) (v : Value), its.toArray[i]? = some v → v = .ref (ad i)) (had : ∀ i, i < its.length → ad i ≠ S ∧ ad i ≠ I) :
    ∀ (k i : Nat) (s : Shared) (T : Addr) (acc : List Value) (c : Nat), its.length - i = k → i ≤ its.length → (s.heap.IsListIter I ax i ∧ s.heap.IsList ax its.toArray) →
    s.heap.get? S = some { cls := .type "list", dict := none, data := .seq #[.ref T] c, slots := #[] } →
    T ≠ S → T ≠ I → (∃ c, PySem.IsL s.heap T acc.toArray c) → (∀ j, j < its.length → ∃ c, PySem.IsL s.heap (ad j) (ls j).toArray c) → acc.length + (((List.range' i k).map ls).flatten).length ≤ sizeLine →
    (∀ s' T', Moved [S, I] (fun a b => b = a) s s' → (∃ c, PySem.IsL s'.heap T' (acc ++ ((List.range' i k).map ls).flatten).toArray c) → (T' = T ∨ S < T') → R (.ok (.ret (.ref T'))) s') →
    codeAny (model prog w) A (.builtin "sum.loop" ⟨[.ref I, .ref S, rawInt 2, rawInt 0], []⟩) R s := by
  have W := (Walks.list (prog := prog) (w := w) (A := A.in1) hh I ax hax its.toArray).toS
  have hsz : its.toArray.size = its.length := List.size_toArray
  rw [hsz] at W
  have hSf : S ∉ [I, ax] := by simp [hSI, hSx]
  have hSw : S ∉ [I] := by simp [hSI]
  have hsub : ∀ b ∈ [I], b ∈ [S, I] := fun b hb => List.mem_cons_of_mem _ hb
  intro k
  induction k with
  | zero =>
    intro i s T acc c hk hi hst hS hTS hTI hT hL hz hR
    have hin : i = its.length := by omega
    subst hin
    refine codeAny_builtin F.entry_sum_loop ?_
    rw [Around.under_plainId F.plain_sum_loop _]
    show wpAny _ A.in1 (seqItems? (.ref S) >>= _) _ _ s
    refine wpAny_bind (wpAny_seqItems hS rfl ?_)
    show wpAny _ A.in1 (tryCatch (pyNext (.ref I)) _ >>= _) _ _ s
    refine wpAny_bind (wpAny_tryCatch (W.done s _ _ hst fun s' hm => ?_))
    obtain ⟨c2, hT⟩ := hT
    refine wpAny_pure (hR s' T (hm.mono hsub) ⟨c2, ?_⟩ (.inl rfl))
    simp only [List.range'_zero, List.map_nil, List.flatten_nil, List.append_nil]
    exact hm.heap T _ (by simp [hTI]) hT
  | succ k ih =>
    intro i s T acc c hk hi hst hS hTS hTI hT hL hz hR
    have hlt : i < its.length := by omega
    refine codeAny_builtin F.entry_sum_loop ?_
    rw [Around.under_plainId F.plain_sum_loop _]
    show wpAny _ A.in1 (seqItems? (.ref S) >>= _) _ _ s
    refine wpAny_bind (wpAny_seqItems hS rfl ?_)
    show wpAny _ A.in1 (tryCatch (pyNext (.ref I)) _ >>= _) _ _ s
    refine wpAny_bind (wpAny_tryCatch (W.item i s _ _ hlt hst fun v s' hP hst' hm => ?_))
    obtain rfl := hval i v hP
    have hS' := hm.heap S _ hSw hS
    obtain ⟨c2, hT⟩ := hT
    have hT' := hm.heap T _ (by simp [hTI]) hT
    obtain ⟨c3, hA⟩ := hL i hlt
    have hA' := hm.heap (ad i) _ (by simp [(had i hlt).2]) hA
    have hr : List.range' i (k + 1) = i :: List.range' (i + 1) k := by rw [List.range'_succ]
    rw [hr, List.map_cons, List.flatten_cons, List.length_append] at hz
    have hI' : ∃ o, s'.heap.get? I = some o := by
      obtain ⟨o, ho, _⟩ := hst'.1
      exact ⟨o, ho⟩
    show wpAny _ A.in1 ((holding [Value.ref (ad i)] (binaryOp .Add (.ref T) (.ref (ad i)))).attempt >>= _) _ _ _
    refine wpAny_bind (wpAny_attempt (wpAny_holding (PySem.P.add_list hT' hA' ?_ (by rw [List.size_toArray, List.size_toArray]; omega))))
    obtain ⟨N, hN⟩ : ∃ N, N = s'.heap.objs.size := ⟨_, rfl⟩
    have lS : S < N := by rw [hN]; exact Heap.lt_size hS'
    have lI : I < N := by obtain ⟨o, ho⟩ := hI'; rw [hN]; exact Heap.lt_size ho
    rw [← hN]
    have hS1 : (s'.heap.push { cls := .type "list", data := .seq (acc.toArray ++ (ls i).toArray) }).get? S = _ := Heap.get?_push_of_some _ hS'
    have hNew : (s'.heap.push { cls := .type "list", data := .seq (acc.toArray ++ (ls i).toArray) }).get? N = some { cls := .type "list", dict := none, data := .seq (acc ++ ls i).toArray 0, slots := #[] } := by
      rw [hN, Heap.get?_push_size _ rfl]
      simp
    show wpAny _ A.in1 (updateSeq S (fun _ => #[.ref N]) >>= _) _ _ _
    refine wpAny_bind (wpAny_updateSeq hS1 rfl ?_)
    have hS₂ := Heap.get?_update_self (Obj.mapSeq fun _ => #[Value.ref N]) hS1 rfl
    refine wpAny_bind (wpAny_letGo ?_)
    have oth : ∀ (b : Addr) (o : Obj), b ≠ S → s'.heap.get? b = some o → (((s'.heap.push { cls := .type "list", data := .seq (acc.toArray ++ (ls i).toArray) }).update S (Obj.mapSeq fun _ => #[Value.ref N])).update S (Obj.mapSeq fun _ => #[Value.ref N])).get? b = some o := fun b o hb e =>
      (Heap.get?_update_other _ _ (fun h : S = b => hb h.symm)).trans ((Heap.get?_update_other _ _ (fun h : S = b => hb h.symm)).trans (Heap.get?_push_of_some _ e))
    refine wpAny_bind (wpAny_updateSeq hS₂ rfl (wpAny_pure ⟨plainId_quiet F.plain_sum_loop _, ih (i + 1) _ N (acc ++ ls i) _ (by omega) hlt (W.frame _ s' _ s'.toks hst' (Nat.le_refl _) fun b hb o e => ?_) (Heap.get?_update_self _ hS₂ rfl) (Nat.ne_of_gt lS) (Nat.ne_of_gt lI) ⟨0, ?_⟩ (fun j hj => ?_) ?_ fun s'' T'' hm'' hl'' ht'' => ?_⟩))
    · exact oth b o (fun h => hSf (by rw [← h]; exact hb)) e
    · exact (Heap.get?_update_other _ _ (fun h : S = N => absurd h (Nat.ne_of_lt lS))).trans ((Heap.get?_update_other _ _ (fun h : S = N => absurd h (Nat.ne_of_lt lS))).trans hNew)
    · obtain ⟨c4, hj'⟩ := hL j hj
      exact ⟨c4, oth (ad j) _ (had j hj).1 (hm.heap (ad j) _ (by simp [(had j hj).2]) hj')⟩
    · rw [List.length_append]
      omega
    · refine hR s'' T'' (Moved.trans W.gtrans ((hm.mono hsub).then_heap (Nat.le_refl _) fun b o hb e => oth b o (fun h => hb (by rw [h]; exact List.mem_cons_self)) e) hm'') ?_ ?_
      · rw [hr, List.map_cons, List.flatten_cons, ← List.append_assoc]
        exact hl''
      · rcases ht'' with rfl | h
        · exact .inr lS
        · exact .inr h
end
section
variable {prog : Program} {w : World} {A : Around} {E : Value → Shared → Prop} {s : Shared}
theorem args_sum2 (a b : Value) : argsOk "sum" ⟨[a, b], []⟩ := by unfold argsOk; kernel_rfl
theorem sub_list_strA : isSubtype (.type "list") (.type "str") = pure false := by rw [isSubtype_type]; kernel_rfl
theorem sub_list_bytesA : isSubtype (.type "list") (.type "bytes") = pure false := by rw [isSubtype_type]; kernel_rfl
theorem sub_list_bytearrayA : isSubtype (.type "list") (.type "bytearray") = pure false := by rw [isSubtype_type]; kernel_rfl
theorem call_sumL (hh : A.handled = none) {l st : Addr} {its init : List Value} {Q : Value → Shared → Prop} (hl : s.heap.IsList l its.toArray) (hst : ∃ c, PySem.IsL s.heap st init.toArray c) (ad : Nat → Addr) (ls : Nat → List Value)
    (hval : ∀ (i : Nat) (v : Value), its.toArray[i]? = some v → v = .ref (ad i)) (hL : ∀ j, j < its.length → ∃ c, PySem.IsL s.heap (ad j) (ls j).toArray c) (hz : init.length + (((List.range' 0 its.length).map ls).flatten).length ≤ sizeLine)
    (h : ∀ h' tk T', (∀ b o, s.heap.get? b = some o → h'.get? b = some o) → (∃ c, PySem.IsL h' T' (init ++ ((List.range' 0 its.length).map ls).flatten).toArray c) → (T' = st ∨ s.heap.objs.size ≤ T') → Q (.ref T') { s with heap := h', toks := tk }) :
    wpAny (model prog w) A (call (.builtin "sum") [.ref l, .ref st]) Q E s := by
  obtain ⟨cs, hst⟩ := hst
  refine call_function_tree F.kind_sum F.plain_sum F.entry_sum (args_sum2 _ _) ?_
  unfold Builtin.«sum»
  simp only [List.length_cons, List.length_nil]
  rw [if_neg (by decide)]
  refine wpAny_bind (wpAny_of_eq (show Builtin.Builtins.bindParams "sum" ["start"] 0 ⟨[.ref st], []⟩ = pure [some (.ref st)] from rfl) ?_)
  have hlt : l < s.heap.objs.size := by obtain ⟨_, e, _⟩ := hl; exact Heap.lt_size e
  have hslt : st < s.heap.objs.size := Heap.lt_size hst
  refine wpAny_bind (wpAny_pyIter_list hl ?_)
  refine wpAny_bind (wpAny_pure ?_)
  have hst1 : (s.heap.push { cls := .type "list_iterator", data := .fields #[.ref l, .int 0 0] }).get? st = some { cls := .type "list", dict := none, data := .seq init.toArray cs, slots := #[] } := Heap.get?_push_of_some _ hst
  have hty : ({ s with heap := s.heap.push { cls := .type "list_iterator", data := .fields #[.ref l, .int 0 0] } } : Shared).TypeIs (.ref st) "list" := ⟨_, hst1, rfl⟩
  simp only [List.forIn_cons, List.forIn_nil]
  refine wpAny_bind (wpAny_bind (wpAny_bind (wpAny_isInstance (T := "list") (b := false) hty sub_list_strA ?_)))
  simp only [Bool.false_eq_true, if_false]
  refine wpAny_pure (wpAny_bind (wpAny_bind (wpAny_isInstance (T := "list") (b := false) hty sub_list_bytesA ?_)))
  simp only [Bool.false_eq_true, if_false]
  refine wpAny_pure (wpAny_bind (wpAny_bind (wpAny_isInstance (T := "list") (b := false) hty sub_list_bytearrayA ?_)))
  simp only [Bool.false_eq_true, if_false]
  refine wpAny_pure (wpAny_pure ?_)
  refine wpAny_bind (wpAny_newObj_type ?_)
  obtain ⟨h1, hh1⟩ : ∃ h1 : Heap, h1 = s.heap.push { cls := .type "list_iterator", data := .fields #[.ref l, .int 0 0] } := ⟨_, rfl⟩
  have z1 : h1.objs.size = s.heap.objs.size + 1 := by rw [hh1, Heap.size_push]
  have keep1 : ∀ b o, s.heap.get? b = some o → h1.get? b = some o := fun b o e => by rw [hh1]; exact Heap.get?_push_of_some _ e
  have hI : h1.IsListIter s.heap.objs.size l 0 := by rw [hh1]; exact ⟨_, Heap.get?_push_size _ rfl, rfl, rfl⟩
  have hll : h1.IsList l its.toArray := by rw [hh1]; exact hl.push _
  rw [← hh1] at hst1
  have hb1 : s.heap.objs.size < h1.objs.size := by rw [z1]; exact Nat.lt_succ_self _
  simp only [← hh1]
  refine wpAny_pure ⟨plainId_quiet F.plain_sum_loop _, sum_loopL (S := h1.objs.size) (I := s.heap.objs.size) (ax := l) (its := its) hh (Nat.ne_of_lt hlt) (Nat.ne_of_gt hb1) (Nat.ne_of_gt (Nat.lt_trans hlt hb1)) (Nat.le_of_lt hb1) ad ls hval (fun i hi => ?_) its.length 0 _ st init 0 rfl (Nat.zero_le _) ⟨hI.at fun o e => Heap.get?_push_of_some _ e, hll.push _⟩ (Heap.get?_push_size _ rfl) (Nat.ne_of_lt (Nat.lt_trans hslt hb1)) (Nat.ne_of_lt hslt) ⟨cs, Heap.get?_push_of_some _ hst1⟩ (fun j hj => ?_) hz fun s' T' hm hT ht => ?_⟩
  · obtain ⟨c, e⟩ := hL i hi
    have hlt2 := Heap.lt_size e
    exact ⟨Nat.ne_of_lt (Nat.lt_trans hlt2 hb1), Nat.ne_of_lt hlt2⟩
  · obtain ⟨c, e⟩ := hL j hj
    exact ⟨c, Heap.get?_push_of_some _ (keep1 _ _ e)⟩
  · obtain ⟨h', g', d', tk', os'⟩ := s'
    have e1 : g' = s.gens := hm.gens
    have e2 : d' = s.drawn := hm.drawn
    have e3 : os' = s.os := hm.os
    subst e1 e2 e3
    refine h h' tk' T' (fun b o e => ?_) hT ?_
    · have hb := Heap.lt_size e
      have n1 : b ≠ h1.objs.size := Nat.ne_of_lt (Nat.lt_trans hb hb1)
      have n2 : b ≠ s.heap.objs.size := Nat.ne_of_lt hb
      exact hm.heap b o (by simp [n1, n2]) (Heap.get?_push_of_some _ (keep1 _ _ e))
    · rcases ht with rfl | ht
      · exact .inl rfl
      · exact .inr (Nat.le_of_lt (Nat.lt_trans hb1 ht))
end
/-- sum(lists, []) -/
def rSumL (K : PySem.W.Frag) : List V → Hp → VK → Prop := fun xs H Q => ∃ (a b : Addr) (vs : List V) (ls : List (List V)), xs = [.ref a, .ref b] ∧ SqL K H a vs ∧ H b = some (.lst []) ∧
  Paired (fun v us => ∃ c, v = V.ref c ∧ H c = some (.lst us)) vs ls ∧ ls.flatten.length ≤ sizeLine ∧ (ls.flatten = [] → Q (.ref b) H) ∧ ∀ p, H p = none → Q (.ref p) (upd H p (.lst ls.flatten))
section
variable {X : Cx} {pins : List (Addr × Obj)} {σ : L2.St} {H : Hp} {s : Shared}
theorem inner_lists (I : Inv X pins σ H s) : ∀ {vs : List V} {ls : List (List V)} {its : List Value}, Paired (fun v us => ∃ c, v = V.ref c ∧ H c = some (.lst us)) vs ls → Vals vs its →
    ∃ (as : List Addr) (ws : List (List Value)), its = as.map Value.ref ∧ as.length = its.length ∧ ws.length = its.length ∧ Vals ls.flatten ws.flatten ∧ ∀ j, j < its.length → ∃ c, PySem.IsL s.heap (as.getD j 0) (ws.getD j []).toArray c
  | _, _, _, .nil, .nil => ⟨[], [], rfl, rfl, rfl, .nil, fun j hj => absurd hj (Nat.not_lt_zero _)⟩
  | _, _, _, .cons ⟨c, e, h⟩ t, .cons r rs => by
    subst e
    cases r
    obtain ⟨as, ws, h1, h2, h3, h4, h5⟩ := inner_lists I t rs
    obtain ⟨z, its, n, r, hl, e⟩ := I.lstM h
    refine ⟨c :: as, its :: ws, by rw [h1]; rfl, by simp [h2], by simp [h3], ?_, fun j hj => ?_⟩
    · rw [List.flatten_cons, List.flatten_cons]
      exact r.append h4
    · cases j with
      | zero => exact ⟨n, e⟩
      | succ j => exact h5 j (by simpa using hj)
theorem flat_getD (ws : List (List Value)) : ((List.range' 0 ws.length).map fun i => ws.getD i []).flatten = ws.flatten := by
  congr 1
  apply List.ext_getElem
  · simp
  · intro i h1 h2
    simp only [List.getElem_map, List.getElem_range', Nat.zero_add, Nat.one_mul]
    rw [List.getD_eq_getElem?_getD, List.getElem?_eq_getElem h2]
    rfl
theorem cr_sumL (hc : X.calm = true) : CallR X (.builtin "sum") (rSumL X.K) := by
  intro pins s σ H xs us Q I r h
  obtain ⟨a, b, vs, ls, rfl, hs, hb, hp, hz, q1, q2⟩ := h
  obtain ⟨its, rv, hl, _⟩ := I.list hs
  obtain ⟨zb, ib, nb, rb, hlb, eb⟩ := I.lstM hb
  cases rb
  have hus : us = [.ref a, .ref b] := by
    cases r with
    | cons r1 r =>
      cases r with
      | cons r2 r =>
        cases r
        cases r1
        cases r2
        rfl
  rw [hus]
  obtain ⟨as, ws, h1, h2, h3, h4, h5⟩ := inner_lists I hp rv
  have hflat := flat_getD ws
  rw [h3] at hflat
  have hlen : ws.flatten.length = ls.flatten.length := h4.length.symm
  refine call_sumL (its := its) (init := []) (I.ok.hd hc) hl.isList ⟨nb, eb⟩ (fun i => as.getD i 0) (fun i => ws.getD i []) (fun i v e => ?_) h5 (by rw [hflat, hlen]; simpa using hz) fun h' tk T' hk hT ht => ?_
  · rw [h1] at e
    simp only [List.getElem?_toArray, List.getElem?_map] at e
    obtain ⟨x, e1, e2⟩ := Option.map_eq_some_iff.mp e
    rw [← e2, List.getD_eq_getElem?_getD, e1]
    rfl
  · rw [hflat, List.nil_append] at hT
    obtain ⟨c, hT⟩ := hT
    rcases ht with rfl | ht
    · have := hk _ _ eb
      rw [hT] at this
      have e0 : ws.flatten = [] := by simpa using (show (∀ l ∈ ws, l = []) ∧ c = nb by simpa using this).1
      rw [e0] at h4
      have e1 : ls.flatten = [] := by cases hh : ls.flatten with
        | nil => rfl
        | cons x y => rw [hh] at h4; cases h4
      exact ⟨.ref _, H, I.kept hk, rfl, q1 e1⟩
    · exact ⟨.ref _, upd H T' (.lst ls.flatten), I.laid hk ht ⟨hz, ws.flatten, c, h4, hT⟩, rfl, q2 T' (I.hok.fresh ht)⟩
end
section
variable {G : Gx} {F : Nat → FnS} {W : WX} {σ : St} {H : Hp} {Q : VK}
theorem lists_of {F0 H : Hp} (sm : Same F0 H) : ∀ {ds : List D} {vs : List V} {ls : List (List D)}, Rps F0 ds vs → listsD ds = some ls → ∃ us : List (List V), Paired (fun v us => ∃ c, v = V.ref c ∧ H c = some (.lst us)) vs us ∧ Rps F0 ls.flatten us.flatten
  | _, _, _, .nil, e => by
    cases e
    exact ⟨[], .nil, .nil⟩
  | _, _, _, .cons h hs, e => by
    cases h with
    | lst h1 h2 =>
      obtain ⟨r, e1, rfl⟩ := Option.map_eq_some_iff.mp (show (listsD _).map _ = some _ from e)
      obtain ⟨us, z1, z2⟩ := lists_of sm hs e1
      exact ⟨_ :: us, .cons ⟨_, rfl, sm _ _ h1⟩ z1, by rw [List.flatten_cons, List.flatten_cons]; exact h2.append z2⟩
    | _ => cases e
theorem rd_sumL {x : Ex} (q : tEv G F W (.prim .sumL [x]) σ H Q) : tCB (rSumL G.K) (tCons (tEv G F W x) (tCons (tLst tNil) tNil)) σ H Q := by
  obtain ⟨C, rfl, r, e, q⟩ := q
  rw [ev_prim, evs_cons] at q
  refine ⟨C, rfl, r, e, ?_⟩
  cases h1 : ev F x r with
  | bad => rw [h1] at q; exact q.elim
  | exc c r1 => rw [h1] at q; exact q
  | ok va r1 =>
    rw [h1, R.bind_ok, evs_nil, R.bind_ok, R.bind_ok] at q
    intro v H1 e1 g1 v1
    obtain ⟨ds, d, h3, h4, h5⟩ := (PostE.after q g1).prim e1 (.cons v1 .nil)
    refine ⟨by show 0 ≤ sizeLine; omega, fun p hp => ?_⟩
    match ds, h3, h4 with
    | [.list a], .cons i .nil, h4 =>
      obtain ⟨ls, z1, z2⟩ := Option.bind_eq_some_iff.mp (show (listsD a).bind _ = some d from h4)
      split at z2
      · rename_i hlen
        cases z2
        obtain ⟨l, vs, rfl, y1, y2⟩ := i.list
        have sm : Same H1 (upd H1 p (.lst [])) := same_upd hp
        obtain ⟨us, w1, w2⟩ := lists_of (msk_same (H := H1)) y2 z1
        have fl : us.flatten.length ≤ sizeLine := by rw [← w2.length, ← lim_eq]; exact hlen
        refine ⟨l, p, vs, us, rfl, .of (sm _ _ y1), upd_same, Paired.mapP w1 fun v u ⟨c, z, w⟩ => ⟨c, z, sm _ _ w⟩, fl, fun z => ?_, fun p2 hp2 => ?_⟩
        · rw [z] at w2
          have : ls.flatten = [] := by cases hh : ls.flatten with
            | nil => rfl
            | cons _ _ => rw [hh] at w2; cases w2
          rw [this] at h5
          exact h5 _ _ sm (.lst (e1.fresh hp) .nil)
        · exact h5 _ _ (sm.trans (same_upd hp2)) (.lst ((e1.grown sm).fresh hp2) (w2.mono (e1.growS (sm.trans (same_upd hp2)))))
      · cases z2
end
end Ap

end
section
/-! Methods of texts. -/
namespace Ap
open PySem PySem.Spec PyProof.Rows L2

abbrev rJoin (K : PySem.W.Frag) : V → List V → Hp → VK → Prop := fun x xs H Q => ∃ a p, ∃ ys : List Str, x = .str a ∧ xs = [.ref p] ∧ (SqL K H p (ys.map V.str) ∨ SqT K H p (ys.map V.str)) ∧ (ys.map (·.length)).sum + ys.length * a.length ≤ 16777216 ∧ Q (.str (Txt.join a ys)) H
abbrev rSplit : V → List V → Hp → VK → Prop := fun x xs H Q => ∃ a b, x = .str a ∧ xs = [.str b] ∧ (b.length == 0) = false ∧ a.length + 2 ≤ sizeLine ∧ rNewStrs (Txt.split a b) H Q
theorem strs_of {F0 : Hp} : ∀ {ds : List D} {vs : List V} {ys : List Str}, Rps F0 ds vs → strsD ds = some ys → vs = ys.map V.str
  | _, _, _, .nil, e => by
    cases e
    rfl
  | _, _, _, .cons h hs, e => by
    cases h with
    | str x =>
      obtain ⟨r, e1, rfl⟩ := Option.map_eq_some_iff.mp (show (strsD _).map _ = some _ from e)
      rw [strs_of hs e1]
      rfl
    | _ => cases e
theorem rps_strs {F0 : Hp} : ∀ ys : List Str, Rps F0 (ys.map .str) (ys.map V.str)
  | [] => .nil
  | y :: ys => .cons (.str y) (rps_strs ys)
section
variable {G : Gx} {F : Nat → FnS} {W : WX} {σ : St} {H : Hp} {Q : VK}
theorem rd_join {z : Str} {b : Ex} (q : tEv G F W (.prim .join [.lit (.str z), b]) σ H Q) : tM1 (rJoin G.K) (tC (.str z)) (tEv G F W b) σ H Q := by
  obtain ⟨C, rfl, r, e, q⟩ := q
  rw [ev_prim, evs_cons, ev] at q
  refine ⟨⟨z, rfl⟩, C, rfl, r, e, ?_⟩
  rw [R.bind_ok, evs_cons] at q
  cases h2 : ev F b r with
  | bad => rw [h2] at q; exact q.elim
  | exc c r2 => rw [h2] at q; exact q
  | ok vb r2 =>
    rw [h2, R.bind_ok, evs_nil, R.bind_ok, R.bind_ok, R.bind_ok] at q
    intro w H2 e2 g2 v2
    obtain ⟨ds, d, h3, h4, h5⟩ := (PostE.after q g2).prim e2 (.cons (show VlOk C r2 σ H2 (.dat (.str z)) (.str z) from .str z) (.cons v2 .nil))
    match ds, h3, h4 with
    | [.str a, .list ds], .cons i (.cons i2 .nil), h4 =>
      have i := i.str
      cases i
      obtain ⟨ys, z1, z2⟩ := Option.bind_eq_some_iff.mp (show (strsD ds).bind _ = some d from h4)
      split at z2
      · rename_i hl
        cases z2
        obtain ⟨p, vs, rfl, y1, y2⟩ := i2.list
        have := strs_of y2 z1
        subst this
        exact ⟨z, p, ys, rfl, rfl, .inl (.of y1), hl, h5.at (.str _)⟩
      · cases z2
theorem rd_split {z : Str} {a : Ex} (q : tEv G F W (.prim .split [a, .lit (.str z)]) σ H Q) : tM1 rSplit (tEv G F W a) (tC (.str z)) σ H Q := by
  obtain ⟨C, rfl, r, e, q⟩ := q
  rw [ev_prim, evs_cons] at q
  refine ⟨C, rfl, r, e, ?_⟩
  cases h2 : ev F a r with
  | bad => rw [h2] at q; exact q.elim
  | exc c r2 => rw [h2] at q; exact q
  | ok va r2 =>
    rw [h2, R.bind_ok, evs_cons, ev, R.bind_ok, evs_nil, R.bind_ok, R.bind_ok, R.bind_ok] at q
    intro w H2 e2 g2 v2
    obtain ⟨ds, d, h3, h4, h5⟩ := (PostE.after q g2).prim e2 (.cons v2 (.cons (show VlOk C r2 σ H2 (.dat (.str z)) (.str z) from .str z) .nil))
    match ds, h3, h4 with
    | [.str a, .str b], .cons i (.cons i2 .nil), h4 =>
      have i2 := i2.str
      cases i2
      have h4 : (if (z.length == 0) = false ∧ a.length + 2 ≤ lim then some (PyData.list ((Txt.split a z).map .str)) else none) = some d := h4
      split at h4
      · rename_i hl
        cases h4
        exact ⟨⟨a, i.str⟩, a, z, i.str, rfl, hl.1, by rw [← lim_eq]; exact hl.2, fun p hp => h5.lst e2 (rps_strs _) hp⟩
      · cases h4
end
end Ap

end
section
/-! list(d.values()) and sorted(d) of a dict with int keys. -/
namespace Ap
open PySem PySem.Spec PyProof.Rows L2

def tListVals (te : TE) : TE := fun σ H Q => te σ H fun x H1 => ∃ (a : Addr) (ws : List (Key × V)), x = .ref a ∧ H1 a = some (.dK ws) ∧ ∀ p, H1 p = none → Q (.ref p) (upd H1 p (.lst (ws.map (·.2))))
theorem vals_of {κ : Type} {ws : List (κ × V)} {vs : List (κ × Value)} (kv : KV ws vs) : ∀ {us : List Value}, us.length = vs.length → (∀ (i : Nat) (u : Value), us[i]? = some u → ∃ k, vs[i]? = some (k, u)) → Vals (ws.map (·.2)) us := by
  unfold KV at kv
  induction kv with
  | nil =>
    intro us hl _
    match us, hl with
    | [], _ => exact .nil
  | cons r t ih =>
    intro us hl h
    match us, hl with
    | u :: us, hl =>
      obtain ⟨k, e⟩ := h 0 u rfl
      have e := Option.some.inj e
      refine .cons ?_ (ih (by simpa using hl) fun i w hw => ?_)
      · have := r.2
        rw [e] at this
        exact this
      · obtain ⟨k2, e2⟩ := h (i + 1) w (by simpa using hw)
        exact ⟨k2, by simpa using e2⟩
theorem pe_listVals {X : Cx} {e : Expr} {te : TE} {p apos cpos pos : Pos} (hc : X.calm = true) (he : PE X e te) (hg : Gl X "list") (hm : X.mg "list" = none) (hbase : attributeBase e "values" X.env (eval e X.env) = eval e X.env) (hline : (apos.endLine == cpos.line) = true) :
    PE X (.Call (.Name "list" p) [.Call (.Attribute e "values" apos) [] [] cpos] [] pos) (tListVals te) := by
  have hs : starEach [.Call (.Attribute e "values" apos) [] [] cpos] X.env = (false, eval (.Call (.Attribute e "values" apos) [] [] cpos) X.env) :: starEach [] X.env := rfl
  refine ⟨fun pins s σ H Q I h => ?_⟩
  refine wpAny_Call_Name_kw (ld_blt I hg hm (u := .type "list") (by decide +kernel) ?_ (by decide) (by decide))
  refine PyProof.Rows.callWith_type1 ?_ hs rfl
  rw [hs]
  show wpAny _ _ (spliced ((false, eval (.Call (.Attribute e "values" apos) [] [] cpos) X.env) :: backTo pos (starEach [] X.env))) _ _ s
  refine Calls.spliced_cons (wpAny_Call_method (T := "dict") (id := "dict.values") hbase rfl hline F.plainAttrs_dict F.slot_dict_values F.type_dict_values (thn (he.run pins s σ H _ I h) fun u s1 z => ?_))
  obtain ⟨x, H1, J, rx, d, ws, ex, hd, q⟩ := z
  subst ex
  obtain rfl : u = Value.ref d := rx
  obtain ⟨hz, hs0, vs, kv, hdo⟩ := J.hok d _ hd
  obtain ⟨ep, hat⟩ := hdo.dictAt
  have lk : ws.length = vs.length := Paired.length kv
  obtain ⟨s2, es2⟩ : ∃ s2 : Shared, s2 = { s1 with heap := s1.heap.push { cls := .type "dict_values", data := .fields #[.ref d] } } := ⟨_, rfl⟩
  have J2 : Inv X pins σ H1 s2 := by
    rw [es2]
    exact J.kept (t' := s1.toks) fun b ob z => Heap.get?_push_of_some _ z
  refine ⟨hdo.typeIs, hdo.mapOf.noDict, ?_⟩
  show wpAny _ _ (callWith cpos (.builtin "dict.values") [.ref d] [] []) _ X.xe s1
  refine method_meetsIn F.slot_dict_values F.entry_dict_values rfl (PySem.evalArgs_none ⟨rfl, hdo.typeIs, F.args_dict_values_1 _, _, meets_dict_values (mixKind X.prog X.w) d hs0, ⟨vs, hdo⟩, ?_⟩)
  refine Calls.spliced_nil ?_
  refine PySem.W.kdl_call (PySem.W.kdl_values (knd := mixKind X.prog X.w) (kvs := vs) (ep := ep)) (J.ok.hd hc) ⟨⟨_, Heap.get?_push_size _ rfl, rfl, rfl⟩, hat.push _⟩ (by omega) fun h' tk acc c hk hS hacc => ?_
  rw [← es2] at hk hS ⊢
  have rv : Vals (ws.map (·.2)) acc.toList := vals_of kv (by rw [Array.length_toList, hacc.1]) fun i u hu => hacc.2 i u (by rw [← Array.getElem?_toList]; exact hu)
  refine ⟨.ref s2.heap.objs.size, _, J2.laid (t' := tk) (o := .lst (ws.map (·.2))) hk (Nat.le_refl _) ⟨by rw [List.length_map]; exact hz, acc.toList, c, rv, ?_⟩, rfl, q _ (J2.hok.fresh (Nat.le_refl _))⟩
  rw [Array.toArray_toList]
  exact hS
theorem Kvs.snd {F : Hp} {α β : Type} {f : α → β} : ∀ {kvs : List (α × D)} {ws : List (β × V)}, Kvs F f kvs ws → Rps F (kvs.map (·.2)) (ws.map (·.2))
  | _, _, .nil => .nil
  | _, _, .cons h t => .cons h t.snd
theorem Kvs.fst {F : Hp} {α β : Type} {f : α → β} : ∀ {kvs : List (α × D)} {ws : List (β × V)}, Kvs F f kvs ws → ws.map (·.1) = (kvs.map (·.1)).map f
  | _, _, .nil => rfl
  | _, _, .cons h t => by simp [t.fst]
theorem insD_perm (a : Int) : ∀ l : List Int, (insD (fun a b : Int => decide (a ≤ b)) a l).Perm (a :: l)
  | [] => List.Perm.refl _
  | b :: l => by
    unfold insD
    split
    · exact List.Perm.refl _
    · exact ((insD_perm a l).cons b).trans (List.Perm.swap a b l)
theorem insD_sorted (a : Int) : ∀ l : List Int, l.Pairwise (· ≤ ·) → (insD (fun a b : Int => decide (a ≤ b)) a l).Pairwise (· ≤ ·)
  | [], _ => List.pairwise_singleton _ _
  | b :: l, h => by
    unfold insD
    split
    · rename_i hab
      have hab := of_decide_eq_true hab
      exact List.pairwise_cons.mpr ⟨fun c hc => by
        rcases List.mem_cons.mp hc with rfl | hc
        · exact hab
        · exact Int.le_trans hab ((List.pairwise_cons.mp h).1 c hc), h⟩
    · rename_i hab
      have hab : ¬ a ≤ b := fun z => hab (decide_eq_true z)
      refine List.pairwise_cons.mpr ⟨fun c hc => ?_, insD_sorted a l (List.pairwise_cons.mp h).2⟩
      rcases List.mem_cons.mp ((insD_perm a l).mem_iff.mp hc) with rfl | hc
      · omega
      · exact (List.pairwise_cons.mp h).1 c hc
theorem isort_int : ∀ l : List Int, (isort (fun a b : Int => decide (a ≤ b)) l).Perm l ∧ (isort (fun a b : Int => decide (a ≤ b)) l).Pairwise (· ≤ ·)
  | [] => ⟨List.Perm.refl _, List.Pairwise.nil⟩
  | a :: l => by
    obtain ⟨h1, h2⟩ := isort_int l
    exact ⟨(insD_perm a _).trans (h1.cons a), insD_sorted a _ h2⟩
theorem sorted_one : ∀ {l m : List Int}, l.Perm m → l.Pairwise (· ≤ ·) → m.Pairwise (· ≤ ·) → l = m
  | [], m, h, _, _ => (List.Perm.nil_eq h)
  | a :: l, [], h, _, _ => by have := h.length_eq; simp at this
  | a :: l, b :: m, h, h1, h2 => by
    have e : a = b := by
      have m1 : a ∈ b :: m := h.mem_iff.mp (List.mem_cons_self ..)
      have m2 : b ∈ a :: l := h.mem_iff.mpr (List.mem_cons_self ..)
      have l1 : b ≤ a := by
        rcases List.mem_cons.mp m1 with z | z
        · omega
        · exact (List.pairwise_cons.mp h2).1 a z
      have l2 : a ≤ b := by
        rcases List.mem_cons.mp m2 with z | z
        · omega
        · exact (List.pairwise_cons.mp h1).1 b z
      omega
    subst e
    rw [sorted_one (h.cons_inv) (List.pairwise_cons.mp h1).2 (List.pairwise_cons.mp h2).2]
section
variable {G : Gx} {F : Nat → FnS} {W : WX} {σ : St} {H : Hp} {Q : VK}
theorem dci_at {C : Fx} {r : Env} {i : Nat} {kvs : List (Int × D)} (e : EOk C r σ H) (h : moOf r[i]? = some (.dci kvs)) : ∃ a ws, σ[i]? = some (some (.ref a)) ∧ H a = some (.dK ws) ∧ Kvs (fz C r σ H) (fun i : Int => (Sum.inl i : Key)) kvs ws := by
  rcases moOf_some h with z | z
  · obtain ⟨v, h1, a, rfl, ws, h2, h3⟩ := e.slot i _ z
    exact ⟨a, ws, h1, h2, h3⟩
  · obtain ⟨v, h1, a, rfl, ws, h2, h3⟩ := e.slot i _ z
    exact ⟨a, ws, h1, h2, h3⟩
theorem rd_dvals {i : Nat} (q : tEv G F W (.dvals i) σ H Q) : tListVals (tVar i) σ H Q := by
  obtain ⟨C, rfl, r, e, q⟩ := q
  rw [ev] at q
  cases h1 : moOf r[i]? with
  | none => rw [h1] at q; exact q.elim
  | some o =>
    rw [h1, Option.bind_some] at q
    cases o with
    | dci kvs =>
      cases h2 : dvalsM (.dci kvs) with
      | none => rw [h2] at q; exact q.elim
      | some d =>
        rw [h2, R.of_some, R.bind_ok] at q
        have h2 : (if kvs.length ≤ lim then some (PyData.list (kvs.map (·.2))) else none) = some d := h2
        split at h2
        · cases h2
          obtain ⟨a, ws, z1, z2, z3⟩ := dci_at e h1
          refine ⟨_, z1, a, ws, rfl, z2, fun p hp => ?_⟩
          exact q _ _ (e.grown (same_upd hp)) (e.growS (same_upd hp)) (.lst (e.fresh hp) (z3.snd.mono (e.growS (same_upd hp))))
        · cases h2
    | lst ds => exact q.elim
    | dct ds => exact q.elim
    | rt _ _ _ _ _ => exact q.elim
    | ll _ => exact q.elim
theorem rps_ints {Fh : Hp} : ∀ ns : List Int, Rps Fh (ns.map PyData.int) (ns.map V.int)
  | [] => .nil
  | n :: ns => .cons (.int n) (rps_ints ns)
def rSortDI : List V → Hp → VK → Prop := fun xs H Q => ∃ (a : Addr) (kvs : List (Key × V)) (ks : List Int), xs = [.ref a] ∧ Rd H a (.dK kvs) ∧ kvs.map (·.1) = ks.map Sum.inl ∧ ks.length < 64 ∧ ∀ (ys : List Int) (p : Addr), ys.Perm ks → ys.Pairwise (· ≤ ·) → H p = none → Q (.ref p) (upd H p (.lst (ys.map V.int)))
theorem rd_dkeys {i : Nat} (q : tEv G F W (.dkeys i) σ H Q) : tCB rSortDI (tCons (tVar i) tNil) σ H Q := by
  obtain ⟨C, rfl, r, e, q⟩ := q
  rw [ev] at q
  cases h1 : moOf r[i]? with
  | none => rw [h1] at q; exact q.elim
  | some o =>
    rw [h1, Option.bind_some] at q
    cases o with
    | dci kvs =>
      cases h2 : dkeysM (.dci kvs) with
      | none => rw [h2] at q; exact q.elim
      | some d =>
        rw [h2, R.of_some, R.bind_ok] at q
        have h2 : (if kvs.length < 64 then some (PyData.list ((isort (fun a b : Int => decide (a ≤ b)) (kvs.map (·.1))).map .int)) else none) = some d := h2
        split at h2
        · rename_i hl
          cases h2
          obtain ⟨a, ws, z1, z2, z3⟩ := dci_at e h1
          refine ⟨_, z1, a, ws, kvs.map (·.1), rfl, .inl z2, z3.fst, by rw [List.length_map]; exact hl, fun ys p h3 h4 hp => ?_⟩
          obtain ⟨s1, s2⟩ := isort_int (kvs.map (·.1))
          rw [sorted_one (h3.trans s1.symm) h4 s2]
          exact q _ _ (e.grown (same_upd hp)) (e.growS (same_upd hp)) (.lst (e.fresh hp) (rps_ints _))
        · cases h2
    | lst ds => exact q.elim
    | dct ds => exact q.elim
    | rt _ _ _ _ _ => exact q.elim
    | ll _ => exact q.elim
end
end Ap

end
section
/-! The checker: a piece of the program's text against a core term; that it is sound. -/
namespace Ap
open PySem PySem.Spec PyProof.Rows L2

structure Ck where
  N : List Str
  fns : List (Nat × Str)
  cls : List (Nat × Str)
  gi : List (Str × Int)
  gs : List (Str × Str)
  wh : Bool := false
  mks : List (Nat × Str) := []
  wo : Bool := false
  rt : Bool := false
  ms : List (Nat × Str) := []
  ini : Bool := false
  dup : Bool := false

def blts : List Str := ["len", "isinstance", "all", "any", "sum", "min", "max", "sorted", "tuple", "list", "range", "zip", "enumerate", "set", "str", "int", "bool", "ValueError"]
def visB (sc : Scope) (x : Str) : Bool := match sc.names.lookup x with
  | some .local => true
  | some .cell => true
  | some .free => true
  | _ => false
def locB (sc : Scope) (x : Str) : Bool := match sc.names.lookup x with
  | some .local => true
  | some .cell => true
  | _ => false
def glB (sc : Scope) (x : Str) : Bool := match sc.names.lookup x with
  | some .globalImplicit => true
  | _ => false
def okName (x : Str) : Bool := !(x == ("__debug__" : Str)) && !(x == ("__classdict__" : Str)) && !(x == ("__name__" : Str))
def binO : Operator → Op → Bool
  | .Add, .add => true
  | .Sub, .sub => true
  | .Mult, .mul => true
  | .FloorDiv, .fdiv => true
  | .Mod, .mod => true
  | .Pow, .pow => true
  | _, _ => false
def cmpO : CmpOp → Op → Bool
  | .Lt, .lt => true
  | .LtE, .le => true
  | .Gt, .gt => true
  | .GtE, .ge => true
  | .Eq, .eq => true
  | .NotEq, .ne => true
  | .Is, .is => true
  | .IsNot, .isnot => true
  | .In, .inn => true
  | .NotIn, .notin => true
  | _, _ => false
def noStar : Expr → Bool
  | .Starred .. => false
  | _ => true
def notIf : Expr → Bool
  | .IfExp .. => false
  | _ => true
def notSlice : Expr → Bool
  | .Slice .. => false
  | _ => true
def notSet : Expr → Bool
  | .Set .. => false
  | _ => true
def notComp : Expr → Bool
  | .ListComp .. => false
  | .SetComp .. => false
  | .DictComp .. => false
  | _ => true
def bltO (f : Str) : Op → Bool
  | .len => f == "len"
  | .all => f == "all"
  | .any => f == "any"
  | .sum => f == "sum"
  | .min2 => f == "min"
  | .max2 => f == "max"
  | .tupOf => f == "tuple"
  | .listOf => f == "list"
  | .sorted => f == "sorted"
  | .minl => f == "min"
  | .maxl => f == "max"
  | .strI => f == "str"
  | .intS => f == "int"
  | _ => false
def tyName : Ty → String
  | .int => "int"
  | .bool => "bool"
  | .tuple => "tuple"
  | .str => "str"
  | .list => "list"
def chkTgs (K : Ck) (sc : Scope) : List Expr → List Nat → Bool
  | [], [] => true
  | .Name x _ :: es, i :: is => decide (K.N[i]? = some x) && locB sc x && chkTgs K sc es is
  | _, _ => false
def chkTg (K : Ck) (sc : Scope) : Expr → Tg → Bool
  | .Name x _, .one i => decide (K.N[i]? = some x) && locB sc x
  | .Tuple es _ _, .many is => chkTgs K sc es is
  | _, _ => false
def isTupleE : Expr → Bool
  | .Tuple .. => true
  | _ => false
def ownOf (K : Ck) (is : List Nat) : List (Str × Nat) := is.filterMap fun i => (K.N[i]?).map fun x => (x, i)

def isNS : Expr → Bool
  | .Name .. => true
  | .Subscript .. => true
  | _ => false
/-- a list of defs by their names -/
def chkFns (K : Ck) (sc : Scope) : List Expr → List Nat → Bool
  | [], [] => true
  | .Name x _ :: es, k :: ks => decide ((k, x) ∈ K.fns) && glB sc x && okName x && chkFns K sc es ks
  | _, _ => false
/-- no method has a field's name -/
def notFl (m : Str) : Bool := !(m == "grid") && !(m == "lines") && !(m == "routes") && !(m == "steps") && !(m == "kept")
/-- a name of the def, in slot i -/
def slotB (K : Ck) (sc : Scope) (i : Nat) (x : Str) : Bool := decide (K.N[i]? = some x) && visB sc x && okName x
mutual
def chkE (K : Ck) : Nat → Scope → Expr → Ex → Bool
  | 0, _, _, _ => false
  | n + 1, sc, e, .var i => (match e with
    | .Name x _ => decide (K.N[i]? = some x) && visB sc x && okName x
    | _ => false)
  | n + 1, sc, e, .lit d => (match e, d with
    | .Constant (.int i) _ _, .int j => decide (i = j)
    | .Constant (.bool i) _ _, .bool j => decide (i = j)
    | .Constant (.str i) _ _, .str j => decide (i = j)
    | .Constant .none _ _, .none => true
    | _, _ => false)
  | n + 1, sc, e, .glb y d => (match e, d with
    | .Name x _, .int i => decide (x = y) && glB sc x && okName x && decide ((x, i) ∈ K.gi)
    | .Name x _, .str i => decide (x = y) && glB sc x && okName x && decide ((x, i) ∈ K.gs)
    | _, _ => false)
  | n + 1, sc, e, .tup xs => (match e with
    | .Tuple es _ _ => chkA K n sc es xs
    | _ => false)
  | n + 1, sc, e, .lst xs => (match e with
    | .List es _ => chkA K n sc es xs
    | _ => false)
  | n + 1, sc, e, .notE x => (match e with
    | .UnaryOp .Not a _ => chkE K n sc a x && notIf a
    | _ => false)
  | n + 1, sc, e, .ite x y z => (match e with
    | .IfExp c a b _ => chkE K n sc c x && notIf c && chkE K n sc a y && chkE K n sc b z
    | _ => false)
  | n + 1, sc, e, .andE x y => (match e with
    | .BoolOp .And [a, b] _ => chkE K n sc a x && notIf a && chkE K n sc b y && notIf b
    | .BoolOp .And (a :: b :: c :: rest) p => chkE K n sc a x && notIf a && chkE K n sc (.BoolOp .And (b :: c :: rest) p) y
    | _ => false)
  | n + 1, sc, e, .orE x y => (match e with
    | .BoolOp .Or [a, b] _ => chkE K n sc a x && notIf a && chkE K n sc b y && notIf b
    | .BoolOp .Or (a :: b :: c :: rest) p => chkE K n sc a x && notIf a && chkE K n sc (.BoolOp .Or (b :: c :: rest) p) y
    | _ => false)
  | n + 1, sc, e, .chain o p x y z => (match e with
    | .Compare a [o1, o2] [b, c] _ => cmpO o1 o && cmpO o2 p && !lastMarks [o1, o2] [b, c] && chkE K n sc a x && chkE K n sc b y && chkE K n sc c z
    | _ => false)
  | n + 1, sc, e, .call k xs => (match e with
    | .Call (.Name f _) (a :: as) [] _ => decide ((k, f) ∈ K.fns) && glB sc f && okName f && (a :: as).all noStar && chkA K n sc (a :: as) xs
    | _ => false)
  | n + 1, sc, e, .pop i => (match e with
    | .Call (.Attribute (.Name x _) m apos) [] [] cpos => decide (m = "pop") && decide (K.N[i]? = some x) && visB sc x && okName x && (apos.endLine == cpos.line)
    | _ => false)
  | n + 1, sc, e, .slen i => (match e with
    | .Call (.Name f _) [.Name x _] [] _ => decide (f = "len") && glB sc f && decide (K.N[i]? = some x) && visB sc x && okName x
    | _ => false)
  | n + 1, sc, e, .sidx i y => (match e with
    | .Subscript (.Name x _) b _ => decide (K.N[i]? = some x) && visB sc x && okName x && notSlice b && chkE K n sc b y
    | _ => false)
  | n + 1, sc, e, .snil i => (match e with
    | .Compare (.Name x _) [.Eq] [.List [] _] _ => decide (K.N[i]? = some x) && visB sc x && okName x
    | _ => false)
  | n + 1, sc, e, .lc x t it cond => (match e with
    | .ListComp elt [⟨tg, iter, ifs, 0⟩] scope _ => chkI K n sc tg iter it && notSet iter && chkTg K scope tg t && blkC K.N sc scope (ownOf K t.slots) && decide ((ownOf K t.slots).map (·.2) = t.slots) && chkC K n (relS scope sc) ifs cond && chkE K n (relS scope sc) elt x
    | _ => false)
  | n + 1, sc, e, .stub => true
  | n + 1, sc, e, .fld i f => (match e with
    | .Attribute (.Name x _) y _ => K.rt && decide (y = f.name) && slotB K sc i x
    | _ => false)
  | n + 1, sc, e, .flen i => (match e with
    | .Call (.Name g _) [.Attribute (.Name x _) y _] [] _ => K.rt && decide (g = "len") && glB sc g && decide (y = "steps") && slotB K sc i x
    | _ => false)
  | n + 1, sc, e, .fpop i => (match e with
    | .Call (.Attribute (.Attribute (.Name x _) y _) m apos) [] [] cpos => K.rt && decide (y = "steps") && decide (m = "pop") && slotB K sc i x && (apos.endLine == cpos.line)
    | _ => false)
  | n + 1, sc, e, .meth k i xs => (match e with
    | .Call (.Attribute (.Name x _) m apos) as [] cpos => K.rt && decide ((k, m) ∈ K.ms) && notFl m && slotB K sc i x && as.all noStar && chkA K n sc as xs && (apos.endLine == cpos.line) && decide (as.length < 20)
    | _ => false)
  | n + 1, sc, e, .rlen k i => (match e with
    | .Call (.Name g _) [.Name x _] [] _ => K.rt && decide (g = "len") && glB sc g && decide ((k, ("__len__" : Str)) ∈ K.ms) && slotB K sc i x
    | _ => false)
  | n + 1, sc, e, .rstr k i => (match e with
    | .Call (.Name g _) [.Name x _] [] _ => K.rt && decide (g = "str") && glB sc g && decide ((k, ("__str__" : Str)) ∈ K.ms) && slotB K sc i x
    | _ => false)
  | n + 1, sc, e, .req k i j b => (match e with
    | .Compare (.Name x _) [op] [.Name y _] _ => K.rt && cmpO op (if b then .ne else .eq) && decide ((k, ("__eq__" : Str)) ∈ K.ms) && slotB K sc i x && slotB K sc j y
    | _ => false)
  | n + 1, sc, e, .reqD k i x => (match e with
    | .Compare (.Name y _) [.Eq] [b] _ => K.rt && !behindInMarks .Eq b && decide ((k, ("__eq__" : Str)) ∈ K.ms) && slotB K sc i y && chkE K n sc b x
    | _ => false)
  | n + 1, sc, e, .isR i => (match e with
    | .Call (.Name f _) [.Name x _, .Name t _] [] _ => K.rt && decide (f = "isinstance") && glB sc f && decide (t = "Router") && glB sc t && slotB K sc i x
    | _ => false)
  | n + 1, sc, e, .mkq k xs ys => false
  | n + 1, sc, e, .mkq1 k xs j => false
  | n + 1, sc, e, .llast i k => false
  | n + 1, sc, e, .lllen i => false
  | n + 1, sc, e, .llnil i j p => false
  | n + 1, sc, e, .mk k xs => (match e with
    | .Call (.Name f _) (a :: as) [] _ => decide ((k, f) ∈ K.mks) && glB sc f && okName f && (a :: as).all noStar && chkA K n sc (a :: as) xs
    | _ => false)
  | n + 1, sc, e, .tix x y => (match e with
    | .Call (.Attribute a m apos) [b] [] cpos => decide (m = "index") && isNS a && (apos.endLine == cpos.line) && noStar b && chkE K n sc a x && chkE K n sc b y
    | _ => false)
  | n + 1, sc, e, .dvals i => (match e with
    | .Call (.Name f _) [.Call (.Attribute (.Name y _) m apos) [] [] cpos] [] _ => decide (f = "list") && glB sc f && decide (m = "values") && decide (K.N[i]? = some y) && visB sc y && okName y && (apos.endLine == cpos.line)
    | _ => false)
  | n + 1, sc, e, .dkeys i => (match e with
    | .Call (.Name f _) [.Name y _] [] _ => decide (f = "sorted") && glB sc f && decide (K.N[i]? = some y) && visB sc y && okName y
    | _ => false)
  | n + 1, sc, e, .fnv k => (match e with
    | .Name x _ => decide ((k, x) ∈ K.fns) && glB sc x && okName x
    | _ => false)
  | n + 1, sc, e, .callV i ks xs => (match e with
    | .Call (.Name x _) (a :: as) [] _ => decide (K.N[i]? = some x) && visB sc x && okName x && ks.all (fun k => K.fns.any fun p => decide (p.1 = k)) && (a :: as).all noStar && chkA K n sc (a :: as) xs
    | _ => false)
  | n + 1, sc, e, .sel ks w xs => (match e with
    | .Call (.Subscript (.List fs _) b _) (a :: as) [] _ => chkFns K sc fs ks && decide (ks.length ≤ 1000) && notSlice b && chkE K n sc b w && (a :: as).all noStar && chkA K n sc (a :: as) xs
    | _ => false)
  | n + 1, sc, e, .dget i k x => (match e with
    | .Call (.Attribute (.Name y _) m apos) [a, b] [] cpos => decide (m = "get") && decide (K.N[i]? = some y) && visB sc y && okName y && (apos.endLine == cpos.line) && noStar a && noStar b && chkE K n sc a k && chkE K n sc b x
    | _ => false)
  | n + 1, sc, e, .didx i k => (match e with
    | .Subscript (.Name y _) b _ => decide (K.N[i]? = some y) && visB sc y && okName y && notSlice b && chkE K n sc b k
    | _ => false)
  | n + 1, sc, e, .prim o xs => (match o with
    | .nset => (match e, xs with
      | .Call (.Name f _) [.Call (.Name g _) [a] [] _] [] _, [x] => decide (f = "len") && glB sc f && decide (g = "set") && glB sc g && noStar a && chkA K n sc [a] [x]
      | _, _ => false)
    | .join => (match e, xs with
      | .Call (.Attribute (.Constant (.str z) k0 p0) m apos) [b] [] cpos, [.lit (.str z'), y] => decide (m = "join") && decide (z = z') && (apos.endLine == cpos.line) && noStar b && chkE K n sc b y
      | _, _ => false)
    | .split => (match e, xs with
      | .Call (.Attribute (.Name x px) m apos) [.Constant (.str z) k0 p0] [] cpos, [y, .lit (.str z')] => decide (m = "split") && decide (z = z') && (apos.endLine == cpos.line) && chkE K n sc (.Name x px) y
      | _, _ => false)
    | .sumL => (match e, xs with
      | .Call (.Name f _) [a, .List [] _] [] _, [x] => decide (f = "sum") && glB sc f && noStar a && chkE K n sc a x
      | _, _ => false)
    | .rngL => (match e, xs with
      | .Call (.Name f _) [.Call (.Name g _) [a] [] _] [] _, [x] => decide (f = "list") && glB sc f && decide (g = "range") && glB sc g && noStar a && chkE K n sc a x
      | _, _ => false)
    | .rngT => (match e, xs with
      | .Call (.Name f _) [.Call (.Name g _) [a] [] _] [] _, [x] => decide (f = "tuple") && glB sc f && decide (g = "range") && glB sc g && noStar a && chkE K n sc a x
      | _, _ => false)
    | .rev => (match e, xs with
      | .Subscript a (.Slice none none (some (.UnaryOp .USub (.Constant (.int 1) _ _) _)) _) _, [x] => chkE K n sc a x
      | _, _ => false)
    | .tidx => (match e, xs with
      | .Call (.Attribute (.Name z _) m apos) [b] [] cpos, [.glb z' (.str t), y] => decide (m = "index") && (apos.endLine == cpos.line) && noStar b && decide (z' = z) && glB sc z && okName z && decide ((z, t) ∈ K.gs) && chkE K n sc b y
      | _, _ => false)
    | .enumL => false
    | _ => (match e with
    | .BinOp a op b _ => (match xs with
      | [x, y] => binO op o && chkE K n sc a x && chkE K n sc b y
      | _ => false)
    | .Compare a [op] [b] _ => (match xs with
      | [x, y] => cmpO op o && !behindInMarks op b && chkE K n sc a x && chkE K n sc b y
      | _ => false)
    | .UnaryOp .USub a _ => (match o, xs with
      | .neg, [x] => chkE K n sc a x
      | _, _ => false)
    | .Subscript a (.Slice lo hi none _) _ => (match o, lo, hi, xs with
      | .slc false false, none, none, [x] => chkE K n sc a x
      | .slc true false, some l, none, [x, y] => chkE K n sc a x && chkE K n sc l y
      | .slc false true, none, some h, [x, y] => chkE K n sc a x && chkE K n sc h y
      | _, _, _, _ => false)
    | .Subscript a b _ => (match o, xs with
      | .idx, [x, y] => notSlice b && chkE K n sc a x && chkE K n sc b y
      | _, _ => false)
    | .Call (.Name f _) [a, .Name t _] [] _ => (match o, xs with
      | .isi ty, [x] => decide (f = "isinstance") && glB sc f && decide (t = PySem.Str.ofString (tyName ty)) && glB sc t && noStar a && chkE K n sc a x
      | _, xs => bltO f o && glB sc f && noStar a && chkA K n sc [a, .Name t ⟨0, 0, 0, 0⟩] xs && false)
    | .Call (.Name f _) (a :: as) [] _ => bltO f o && glB sc f && (a :: as).all noStar && chkA K n sc (a :: as) xs
    | _ => false))
def chkA (K : Ck) : Nat → Scope → List Expr → List Ex → Bool
  | 0, _, _, _ => false
  | n + 1, sc, es, xs => (match es, xs with
    | [], [] => true
    | e :: es, x :: xs => noStar e && chkE K n sc e x && chkA K n sc es xs
    | _, _ => false)
def chkC (K : Ck) : Nat → Scope → List Expr → List Ex → Bool
  | 0, _, _, _ => false
  | n + 1, sc, es, xs => (match es, xs with
    | [], [] => true
    | [e], [x] => notIf e && chkE K n sc e x
    | _, _ => false)
def chkI (K : Ck) : Nat → Scope → Expr → Expr → It → Bool
  | 0, _, _, _, _ => false
  | n + 1, sc, tg, e, .seq x => chkE K n sc e x
  | n + 1, sc, tg, e, .rng xs => (match e, xs with
    | .Call (.Name f _) [a] [] _, [x] => decide (f = "range") && glB sc f && noStar a && chkA K n sc [a] [x]
    | .Call (.Name f _) [a, b] [] _, [x, y] => decide (f = "range") && glB sc f && noStar a && noStar b && chkA K n sc [a, b] [x, y]
    | _, _ => false)
  | n + 1, sc, tg, e, .dwn x => (match e with
    | .Call (.Name f _) [a, .UnaryOp .USub (.Constant (.int 1) _ _) _, .UnaryOp .USub (.Constant (.int 1) _ _) _] [] _ => decide (f = "range") && glB sc f && noStar a && chkE K n sc a x
    | _ => false)
  | n + 1, sc, tg, e, .zip xs => isTupleE tg && (match e, xs with
    | .Call (.Name f _) [a, b] [] _, [x, y] => decide (f = "zip") && glB sc f && noStar a && noStar b && chkA K n sc [a, b] [x, y]
    | .Call (.Name f _) [a, b, c] [] _, [x, y, z] => decide (f = "zip") && glB sc f && noStar a && noStar b && noStar c && chkA K n sc [a, b, c] [x, y, z]
    | _, _ => false)
  | n + 1, sc, tg, e, .enum x => isTupleE tg && (match e with
    | .Call (.Name f _) [a] [] _ => decide (f = "enumerate") && glB sc f && noStar a && chkA K n sc [a] [x]
    | _ => false)
end

/-! ### rules by operators -/
section
variable {X : Cx} {G : Gx}
theorem bin_rule (hk : X.K = G.K) {op : Operator} {o : Op} (h : binO op o = true) : ∃ t, OpR X (binaryOp op) t ∧ ∀ C : Fx, C.G = G → Prim2 C o t := by
  unfold binO at h
  split at h
  · exact ⟨_, or_add, fun C hC => by subst hC; rw [hk]; exact p_add⟩
  · exact ⟨_, op_sub, fun C hC => p_sub⟩
  · exact ⟨_, or_mul, fun C hC => by subst hC; rw [hk]; exact p_mul⟩
  · exact ⟨_, op_fdivW, fun C hC => p_fdiv⟩
  · exact ⟨_, op_mod, fun C hC => p_mod⟩
  · exact ⟨_, op_pow, fun C hC => p_pow⟩
  · cases h
theorem cmp_rule (hk : X.K = G.K) (hu : X.A.units + 65 < cLine) {op : CmpOp} {o : Op} (h : cmpO op o = true) : ∃ t, OpR X (compareOp op) t ∧ ∀ C : Fx, C.G = G → Prim2 C o t := by
  unfold cmpO at h
  split at h
  · exact ⟨_, op_lt, fun C hC => p_cmp fun _ _ => rfl⟩
  · exact ⟨_, op_le, fun C hC => p_cmp fun _ _ => rfl⟩
  · exact ⟨_, op_gt, fun C hC => p_cmp fun _ _ => rfl⟩
  · exact ⟨_, op_ge, fun C hC => p_cmp fun _ _ => rfl⟩
  · exact ⟨_, or_eq (by omega), fun C hC => by subst hC; rw [hk]; exact p_eq⟩
  · exact ⟨_, or_ne (by omega), fun C hC => by subst hC; rw [hk]; exact p_ne⟩
  · exact ⟨_, or_is, fun C hC => p_is⟩
  · exact ⟨_, or_isnt, fun C hC => p_isnot⟩
  · exact ⟨_, or_in hu, fun C hC => by subst hC; rw [hk]; exact p_in⟩
  · exact ⟨_, or_notin hu, fun C hC => by subst hC; rw [hk]; exact p_notin⟩
  · cases h
end
end Ap

end
section
/-! The checker is sound: expressions. -/
namespace Ap
open PySem PySem.Spec PyProof.Rows L2

def FnGood (X : Cx) (G : Gx) (F : Nat → FnS) (k : Nat) (x : Str) : Prop :=
  ∃ fd ps lvl, X.mg x = some (.ref (G.fa k)) ∧ PySem.W.keepIn X.K (.ref (G.fa k)) = true ∧ Binds X.K fd ps [] ∧ FnOk X.prog X.w X.K X.mg X.base (L2N.CX X.prog X.w) lvl (G.fa k) fd ps (spOf G.K G.fa G.ca (F k)) ∧ Room lvl X.A
/-- a class of which it is known when it raises -/
def MkGood (X : Cx) (G : Gx) (sp : Sp) (x : Str) : Prop :=
  ∃ (Cl f : Addr) (fd : FuncData) (ps : List Str) (lvl : Nat), X.mg x = some (.ref Cl) ∧ Mk X.K Cl f ∧ Binds X.K fd ps [] ∧ FnOk X.prog X.w X.K X.mg X.base (L2N.CX X.prog X.w) lvl f fd ps sp ∧ Room (lvl + 1) X.A
def spX (K : PySem.W.Frag) (ca : Nat → Addr) (f : FnS) : Sp := fun xs H Q E => ∃ (v : V) (rest : List V) (ds : List D) (os : Addr → Prop), xs = v :: rest ∧ Rps (msk H os) ds rest ∧ (∀ a, os a → ∃ o, H a = some o) ∧ match f (ds.map .dat) with
  | .exc c _ => ∀ H', Same H H' → E (.ref (ca c)) none H'
  | _ => False
def rtTys : List String := ["NoneType", "bool", "int", "str", "list", "tuple"]
/-- what of the text the class must have -/
structure RtK (K : PySem.W.Frag) (C : Addr) : Prop where
  cls : Cls K C
  c1 : PySem.W.findIn K (.ref C) "__class__" = some (some (.builtin "object.__class__"))
  c2 : PySem.W.specialIn K (.builtin "object.__class__") "__get__" = some (some (.builtin "getset_descriptor.__get__"))
  c3 : PySem.W.takesIn K (.builtin "object.__class__") = some true
  c4 : PySem.W.mroIn K C (.type "object") = some true
  ne : PySem.W.findIn K (.ref C) "__ne__" = some (some (.builtin "object.__ne__"))
  sub : PySem.W.subIn K (.ref C) (.type "object") = some true
  self : PySem.W.kitOne K (.ref C) (.ref C) = some true
  no : ∀ t ∈ rtTys, PySem.W.kitOne K (.type t) (.ref C) = some false ∧ PySem.W.subIn K (.type t) (.ref C) = some false
  grid : NoAttr K C "grid"
  lines : NoAttr K C "lines"
  routes : NoAttr K C "routes"
  steps : NoAttr K C "steps"
  kept : NoAttr K C "kept"
/-- a method of the class -/
def MtGood (X : Cx) (G : Gx) (F : Nat → FnS) (k : Nat) (m : Str) : Prop :=
  ∃ f fd ps lvl, Meth X.K (G.fa 900) m f ∧ Binds X.K fd ps [] ∧ FnOk X.prog X.w X.K X.mg X.base (L2N.CX X.prog X.w) lvl f fd ps (spOf G.K G.fa G.ca (F k)) ∧ Room (lvl + 3) X.A
/-- the promise of __init__ -/
def spI (G : Gx) (f : FnS) : Sp := fun xs H Q E => ∃ (x dx : Addr) (g l : V) (gd ld : D) (os : Addr → Prop), xs = [.ref x, g, l] ∧ H x = some (.ins (G.fa 900) dx []) ∧ os x ∧ (∀ a, os a → ∃ o, H a = some o) ∧ Rp (msk H os) gd g ∧ Rp (msk H os) ld l ∧ match f [.dat gd, .dat ld] with
  | .ret ro _ => ∀ b v3 H', H b = none → (∀ a o, a ≠ x → H a = some o → H' a = some o) → H' x = some (.ins (G.fa 900) dx (rtF g l v3 b (.int 0))) → H' b = some (.lst []) → Rp (msk H' fun a => os a ∨ a = b) ro v3 → Q .non H'
  | .exc c _ => ∀ H', (∀ a o, a ≠ x → H a = some o → H' a = some o) → E (.ref (G.ca c)) none H'
  | .bad => False
/-- the class can be made -/
def MiGood (X : Cx) (G : Gx) (F : Nat → FnS) : Prop :=
  ∃ f fd ps lvl, Mk X.K (G.fa 900) f ∧ Binds X.K fd ps [] ∧ FnOk X.prog X.w X.K X.mg X.base (L2N.CX X.prog X.w) lvl f fd ps (spI G (F 900)) ∧ Room (lvl + 1) X.A
structure Good (X : Cx) (K : Ck) (G : Gx) (F : Nat → FnS) (sc sc0 : Scope) (W : WX) : Prop where
  n : X.N = K.N
  nd : X.N.Nodup
  sc : X.env.scope = sc
  calm : X.calm = true
  k : X.K = G.K
  takes : L2N.Takes X W
  hu : X.A.units + 65 < cLine
  blt : ∀ x ∈ blts, X.mg x = none
  gi : ∀ p ∈ K.gi, ∃ t, X.mg p.1 = some (.int p.2 t)
  gs : ∀ p ∈ K.gs, ∃ t, X.mg p.1 = some (.str p.2 t)
  fns : ∀ p ∈ K.fns, FnGood X G F p.1 p.2
  mks : ∀ p ∈ K.mks, MkGood X G (spX G.K G.ca (F p.1)) p.2
  rt : K.rt = true → RtK X.K (G.fa 900) ∧ X.mg "Router" = some (.ref (G.fa 900))
  ms : ∀ p ∈ K.ms, MtGood X G F p.1 p.2
  ini : K.ini = true → MiGood X G F
  tgt : ∀ x, locB sc0 x = true → Loc X.env.scope x ∧ (X.fn x = true ∨ X.env.scope.names.lookup x = some .local)

section
variable {X : Cx} {K : Ck} {G : Gx} {F : Nat → FnS} {sc sc0 : Scope} {W : WX}
theorem visB_ok {x : Str} (h : visB sc x = true) : Vis sc x := by
  unfold visB at h
  split at h
  · exact .inl (by assumption)
  · exact .inr (.inl (by assumption))
  · exact .inr (.inr (by assumption))
  · cases h
theorem glB_ok (g : Good X K G F sc sc0 W) {x : Str} (h : glB sc x = true) : Gl X x := by
  unfold glB at h
  split at h
  · show X.env.scope.names.lookup x = _
    rw [g.sc]
    assumption
  · cases h
theorem okName_ok {x : Str} (h : okName x = true) : (x == ("__debug__" : Str)) = false ∧ (x == ("__classdict__" : Str)) = false ∧ x ≠ "__name__" := by
  unfold okName at h
  simp only [Bool.and_eq_true, Bool.not_eq_true'] at h
  exact ⟨h.1.1, h.1.2, by simpa using h.2⟩
theorem star_cons {e : Expr} {es : List Expr} (h : noStar e = true) : starEach (e :: es) X.env = (false, eval e X.env) :: starEach es X.env := by
  cases e <;> first | rfl | cases h
theorem star_back {pos : Pos} : ∀ {es : List Expr}, es.all noStar = true → (backTo pos (starEach es X.env)).any (·.1) = false
  | [], _ => rfl
  | e :: es, h => by
    simp only [List.all_cons, Bool.and_eq_true] at h
    rw [star_cons h.1]
    have := star_back (pos := pos) (es := es) h.2
    show (false || (backTo pos (starEach es X.env)).any (·.1)) = false
    rw [this]
    rfl
theorem plainIx {b : Expr} (h : notSlice b = true) : PlainIx b := by
  intro o i
  cases b <;> first | rfl | cases h
theorem folded {e : Expr} (h : notSet e = true) : ∀ x, foldedSetIterable e X.env x = pure x := by
  intro x
  cases e <;> first | rfl | cases h
theorem tgs_ok (hn : X.N = K.N) (nd : X.N.Nodup) (ht : ∀ x, locB sc0 x = true → Loc X.env.scope x ∧ (X.fn x = true ∨ X.env.scope.names.lookup x = some .local)) : ∀ {es : List Expr} {is : List Nat}, chkTgs K sc0 es is = true → PGs X es (gsOf is) ∧ (assignEach es X.env).length = is.length ∧ (assignEach es X.env).findIdx? (·.1) = none
  | [], [], _ => ⟨pgs_nil, rfl, rfl⟩
  | [], _ :: _, h => by cases h
  | .Name x _ :: es, [], h => by simp [chkTgs] at h
  | .Name x p :: es, i :: is, h => by
    simp only [chkTgs, Bool.and_eq_true, decide_eq_true_eq] at h
    obtain ⟨h1, h2, h3⟩ := tgs_ok hn nd ht h.2
    obtain ⟨l, f⟩ := ht x h.1.2
    refine ⟨pgs_cons (pg_name (i := i) nd (by rw [hn]; exact h.1.1) l f) h1 rfl, ?_, ?_⟩
    · show (assignEach es X.env).length + 1 = _
      rw [h2]
      rfl
    · show List.findIdx? (·.1) ((false, assign (.Name x p) X.env) :: assignEach es X.env) = none
      rw [List.findIdx?_cons]
      simp [h3]
  | .BoolOp .. :: _, _, h => by simp [chkTgs] at h
  | .NamedExpr .. :: _, _, h => by simp [chkTgs] at h
  | .BinOp .. :: _, _, h => by simp [chkTgs] at h
  | .UnaryOp .. :: _, _, h => by simp [chkTgs] at h
  | .Lambda .. :: _, _, h => by simp [chkTgs] at h
  | .IfExp .. :: _, _, h => by simp [chkTgs] at h
  | .Dict .. :: _, _, h => by simp [chkTgs] at h
  | .Set .. :: _, _, h => by simp [chkTgs] at h
  | .ListComp .. :: _, _, h => by simp [chkTgs] at h
  | .SetComp .. :: _, _, h => by simp [chkTgs] at h
  | .DictComp .. :: _, _, h => by simp [chkTgs] at h
  | .GeneratorExp .. :: _, _, h => by simp [chkTgs] at h
  | .Await .. :: _, _, h => by simp [chkTgs] at h
  | .Yield .. :: _, _, h => by simp [chkTgs] at h
  | .YieldFrom .. :: _, _, h => by simp [chkTgs] at h
  | .Compare .. :: _, _, h => by simp [chkTgs] at h
  | .Call .. :: _, _, h => by simp [chkTgs] at h
  | .FormattedValue .. :: _, _, h => by simp [chkTgs] at h
  | .JoinedStr .. :: _, _, h => by simp [chkTgs] at h
  | .Constant .. :: _, _, h => by simp [chkTgs] at h
  | .Attribute .. :: _, _, h => by simp [chkTgs] at h
  | .Subscript .. :: _, _, h => by simp [chkTgs] at h
  | .Starred .. :: _, _, h => by simp [chkTgs] at h
  | .List .. :: _, _, h => by simp [chkTgs] at h
  | .Tuple .. :: _, _, h => by simp [chkTgs] at h
  | .Slice .. :: _, _, h => by simp [chkTgs] at h
theorem tg_ok (hn : X.N = K.N) (nd : X.N.Nodup) (hc : X.calm = true) (hk : X.K = G.K) (ht : ∀ x, locB sc0 x = true → Loc X.env.scope x ∧ (X.fn x = true ∨ X.env.scope.names.lookup x = some .local)) {e : Expr} {t : Tg} (h : chkTg K sc0 e t = true) : PG X e (gOf G.K t) := by
  unfold chkTg at h
  split at h
  · simp only [Bool.and_eq_true, decide_eq_true_eq] at h
    obtain ⟨l, f⟩ := ht _ h.2
    exact pg_name nd (by rw [hn]; exact h.1) l f
  · obtain ⟨h1, h2, h3⟩ := tgs_ok hn nd ht h
    show PG X _ (gTup G.K _ (gsOf _))
    rw [← hk]
    exact pg_tup hc h1 h2 h3
  · cases h
/-- a built-in by its name -/
theorem blt_rule (g : Good X K G F sc sc0 W) {f : Str} {o : Op} {e : Expr} {es : List Expr} {p pos : Pos} {t : TA} (h : bltO f o = true) (hg : glB sc f = true) (hs : (e :: es).all noStar = true) (ha : PA X (e :: es) t) :
    ∃ r, PE X (.Call (.Name f p) (e :: es) [] pos) (tCB r t) ∧ ∀ C : Fx, C.G = G → PrimN C o r := by
  have gl := glB_ok g hg
  have hs2 := hs
  simp only [List.all_cons, Bool.and_eq_true] at hs2
  have hb := star_back (X := X) (pos := pos) hs2.2
  have hc := star_cons (X := X) (es := es) hs2.1
  unfold bltO at h
  split at h
  · obtain rfl : f = "len" := by simpa using h
    exact ⟨_, pe_callB call_len gl (g.blt _ (by decide)) boot_len ha (by decide) (by decide) hc hb, fun C hC => by subst hC; rw [g.k]; exact p_len⟩
  · obtain rfl : f = "all" := by simpa using h
    exact ⟨_, pe_callB (cr_all g.calm) gl (g.blt _ (by decide)) (by decide +kernel) ha (by decide) (by decide) hc hb, fun C hC => by subst hC; rw [g.k]; exact p_all⟩
  · obtain rfl : f = "any" := by simpa using h
    exact ⟨_, pe_callB (cr_any g.calm) gl (g.blt _ (by decide)) (by decide +kernel) ha (by decide) (by decide) hc hb, fun C hC => by subst hC; rw [g.k]; exact p_any⟩
  · obtain rfl : f = "sum" := by simpa using h
    exact ⟨_, pe_callB (cr_sum g.calm) gl (g.blt _ (by decide)) (by decide +kernel) ha (by decide) (by decide) hc hb, fun C hC => by subst hC; rw [g.k]; exact p_sum⟩
  · obtain rfl : f = "min" := by simpa using h
    exact ⟨_, pe_callB (call_min2 g.calm) gl (g.blt _ (by decide)) (by decide +kernel) ha (by decide) (by decide) hc hb, fun C hC => p_min2⟩
  · obtain rfl : f = "max" := by simpa using h
    exact ⟨_, pe_callB (call_max2 g.calm) gl (g.blt _ (by decide)) (by decide +kernel) ha (by decide) (by decide) hc hb, fun C hC => p_max2⟩
  · obtain rfl : f = "tuple" := by simpa using h
    exact ⟨_, pe_callTy call_tupL gl (g.blt _ (by decide)) (by decide +kernel) ha (by decide) (by decide) hc hb, fun C hC => by subst hC; rw [g.k]; exact p_tupOf⟩
  · obtain rfl : f = "list" := by simpa using h
    exact ⟨_, pe_callTy call_list_of gl (g.blt _ (by decide)) (by decide +kernel) ha (by decide) (by decide) hc hb, fun C hC => by subst hC; rw [g.k]; exact p_listOf⟩
  · obtain rfl : f = "sorted" := by simpa using h
    exact ⟨_, pe_callB (cr_sortD g.hu) gl (g.blt _ (by decide)) (by decide +kernel) ha (by decide) (by decide) hc hb, fun C hC => by subst hC; rw [g.k]; exact p_sorted⟩
  · obtain rfl : f = "min" := by simpa using h
    exact ⟨_, pe_callB (cr_minD g.calm g.hu) gl (g.blt _ (by decide)) (by decide +kernel) ha (by decide) (by decide) hc hb, fun C hC => by subst hC; rw [g.k]; exact p_minl⟩
  · obtain rfl : f = "max" := by simpa using h
    exact ⟨_, pe_callB (cr_maxD g.calm g.hu) gl (g.blt _ (by decide)) (by decide +kernel) ha (by decide) (by decide) hc hb, fun C hC => by subst hC; rw [g.k]; exact p_maxl⟩
  · obtain rfl : f = "str" := by simpa using h
    exact ⟨_, pe_callTy call_str_int gl (g.blt _ (by decide)) (by decide +kernel) ha (by decide) (by decide) hc hb, fun C hC => p_strI⟩
  · obtain rfl : f = "int" := by simpa using h
    exact ⟨_, pe_callTy call_int_str gl (g.blt _ (by decide)) (by decide +kernel) ha (by decide) (by decide) hc hb, fun C hC => p_intS⟩
  · cases h
/-! isinstance -/
def tyStr : D → String
  | .none => "NoneType"
  | .bool _ => "bool"
  | .int _ => "int"
  | .str _ => "str"
  | .list _ => "list"
  | .tuple _ => "tuple"
  | .dict _ => "dict"
theorem Od.ty {C : Fx} {r : Env} {σ : St} {H : Hp} {d : D} {x : V} (h : Od C r σ H d x) : TyX C.K H x (.type (tyStr d)) := by
  rcases h with h | ⟨_, _, _, rfl, rfl, h, _⟩
  · cases h with
    | non => exact .base .non
    | bl b => exact .base (.bl b)
    | int i => exact .base (.int i)
    | str z => exact .base (.str z)
    | lst h1 _ => exact .base (.lst (msk_same _ _ h1))
    | tup h1 _ =>
      rcases (h1.mono msk_same).rd with z | ⟨o, z⟩
      · exact .base (.tup z)
      · exact .fTuple z
  · exact .base (.lst h)
theorem kit_all (ty : Ty) (d : D) (h : d.plain = true) : kitB (tyStr d) (tyName ty) = some (isiD ty d) := by
  cases ty <;> cases d <;> first | (cases h; done) | (show kitB _ _ = some _; decide +kernel) | skip
  all_goals (simp only [isiD, tyStr, tyName]; decide +kernel)
theorem ty_boot (ty : Ty) : bootBuiltins (PySem.Str.ofString (tyName ty)) = some (.type (tyName ty)) ∧ (PySem.Str.ofString (tyName ty)) ∈ blts ∧ (PySem.Str.ofString (tyName ty)) ≠ "__name__" ∧ ((PySem.Str.ofString (tyName ty)) == ("__debug__" : Str)) = false := by
  cases ty <;> decide +kernel
theorem x_isi (g : Good X K G F sc sc0 W) {a : Expr} {x : Ex} {ty : Ty} {p p2 pos : Pos} (hg : glB sc "isinstance" = true) (hg2 : glB sc (PySem.Str.ofString (tyName ty)) = true) (hs : noStar a = true) (ha : PE X a (tEv G F W x)) :
    PE X (.Call (.Name "isinstance" p) [a, .Name (PySem.Str.ofString (tyName ty)) p2] [] pos) (tEv G F W (.prim (.isi ty) [x])) := by
  obtain ⟨b1, b2, b3, b4⟩ := ty_boot ty
  refine PE.imp (pe_callB call_isi (glB_ok g hg) (g.blt _ (by decide)) (by decide +kernel) (pa_cons ha (pa_cons (pe_bltn (v := .ty (tyName ty)) (glB_ok g hg2) (g.blt _ b2) b1 rfl b3 b4) pa_nil rfl) (star_cons hs)) (by decide) (by decide) (star_cons hs) rfl) fun σ H Q q => ?_
  obtain ⟨C, rfl, r, e, q⟩ := q
  rw [ev_prim, evs_cons] at q
  refine ⟨C, rfl, r, e, ?_⟩
  cases h1 : ev F x r with
  | bad => rw [h1] at q; exact q.elim
  | exc c r1 => rw [h1] at q; exact q
  | ok va r1 =>
    rw [h1, R.bind_ok, evs_nil, R.bind_ok, R.bind_ok] at q
    intro v H1 e1 g1 v1
    obtain ⟨ds, d, h3, h4, h5⟩ := (PostE.after q g1).prim e1 (.cons v1 .nil)
    match ds, h3, h4 with
    | [a], .cons i .nil, h4 =>
      cases h4
      refine ⟨v, .ty (tyName ty), _, .type (tyName ty), isiD ty a, rfl, .ty _, ?_, kit_ty (kit_all ty a i.plain), h5.at (.bl _)⟩
      rw [g.k]
      exact i.ty
end
end Ap

end
section
/-! Calls of a def that a slot or a list of defs holds. -/
namespace Ap
open PySem PySem.Spec PyProof.Rows L2

section
variable {G : Gx} {F : Nat → FnS} {W : WX} {σ : St} {H : Hp} {Q : VK}
theorem call_sp {C : Fx} {r r1 : Env} {H1 : Hp} {f : FnS} {vs : List Vl} {xs : List V} (e1 : EOk C r1 σ H1) (g1 : Grow C r r1 σ H H1) (v1 : VlsOk C r1 σ H1 vs xs) (q : PostE C W r σ H Q (callR f vs r1)) : spOf C.K C.fa C.ca f xs H1 Q (WE W σ) := by
  unfold callR at q
  cases h2 : argsOf r1 vs with
  | none => rw [h2] at q; exact q.elim
  | some as =>
    rw [h2] at q
    simp only at q
    split at q
    · rename_i nd
      refine ⟨_, as, args_ok e1 v1 h2 nd, ?_⟩
      cases h3 : f as with
      | bad => rw [h3] at q; exact q.elim
      | exc c outs =>
        rw [h3] at q
        exact fun H' p => q H' (call_after e1 v1 h2 nd p).1
      | ret d outs =>
        rw [h3] at q
        intro v H' p rp
        obtain ⟨e2, g2, k2⟩ := call_after e1 v1 h2 nd p
        exact q v H' e2 (g1.trans g2) (k2 d v rp)
    · exact q.elim
def tCallX (G : Gx) (F : Nat → FnS) (W : WX) (ks : List Nat) (tf : TE) (t : TA) : TE := fun σ H Q => tf σ H fun y H1 => ∃ k, k ∈ ks ∧ y = .ref (G.fa k) ∧ t σ H1 fun vs H2 => spOf G.K G.fa G.ca (F k) vs H2 Q (WE W σ)
theorem pe_callX {X : Cx} {ks : List Nat} {tf : TE} {t : TA} {fe e : Expr} {es : List Expr} {pos : Pos} (hg : ∀ k ∈ ks, ∃ x, FnGood X G F k x) (tk : L2N.Takes X W) (hf : PE X fe tf) (ha : PA X (e :: es) t)
    (ht : eval (.Call fe (e :: es) [] pos) X.env = (do callWith pos (← eval fe X.env) [] (backTo pos (starEach (e :: es) X.env)) (backToKw pos (keywordEach [] X.env))))
    (he : starEach (e :: es) X.env = (false, eval e X.env) :: starEach es X.env) (hpl : (backTo pos (starEach es X.env)).any (·.1) = false) : PE X (.Call fe (e :: es) [] pos) (tCallX G F W ks tf t) := by
  refine ⟨fun pins s σ H Q I h => ?_⟩
  refine Call_ (thn (hf.run pins s σ H _ I h) fun u s1 ⟨y, H1, I1, ry, k, hk, ey, q⟩ => ?_) ht
  subst ey
  obtain rfl : u = Value.ref (G.fa k) := ry
  obtain ⟨x, fd, ps, lvl, m1, m2, m3, m4, m5⟩ := hg k hk
  refine PySem.W.callWith_K (h₀ := X.base) I.ok.mod.kin m2 (thn (ha.run pos pins s1 σ H1 _ I1 q) fun us s2 ⟨vs, H2, I2, rv, q2⟩ => ⟨I2.kIn, ?_⟩) he hpl
  exact run_fnS m4 m5 m3 (L2N.passAt tk σ) I2 rv q2
theorem rd_callV {i : Nat} {ks : List Nat} {es : List Ex} (q : tEv G F W (.callV i ks es) σ H Q) : tCallX G F W ks (tVar i) (tEvs G F W es) σ H Q := by
  obtain ⟨C, rfl, r, e, q⟩ := q
  rw [ev] at q
  cases h0 : inK ks (fnAt r i) with
  | none => rw [h0] at q; exact q.elim
  | some k =>
    rw [h0, R.of_some, R.bind_ok] at q
    unfold inK at h0
    cases h1 : fnAt r i with
    | none => rw [h1] at h0; cases h0
    | some k' =>
      rw [h1, Option.bind_some] at h0
      split at h0
      · rename_i hk
        cases h0
        unfold fnAt at h1
        split at h1
        · rename_i hs
          cases h1
          obtain ⟨v, z1, z2⟩ := e.slot i _ hs
          refine ⟨v, z1, k, hk, z2, C, rfl, r, e, ?_⟩
          cases h2 : evs F es r with
          | bad => rw [h2] at q; exact q.elim
          | exc c r1 => rw [h2] at q; exact q
          | ok vs r1 =>
            rw [h2, R.bind_ok] at q
            exact fun xs H1 e1 g1 v1 => call_sp e1 g1 v1 q
        · cases h1
      · cases h0
/-- a list of defs -/
def tFns (fa : Nat → Addr) (ks : List Nat) : TA := fun _ H Q => Q (ks.map fun k => V.ref (fa k)) H
theorem pa_fns {X : Cx} {K : Ck} {sc sc0 : Scope} (g : Good X K G F sc sc0 W) : ∀ {es : List Expr} {ks : List Nat}, chkFns K sc es ks = true → PA X es (tFns G.fa ks)
  | [], [], _ => PA.imp pa_nil fun σ H Q q => q
  | [], _ :: _, h => by simp [chkFns] at h
  | .Name x p :: es, [], h => by simp [chkFns] at h
  | .Name x p :: es, k :: ks, h => by
    simp only [chkFns, Bool.and_eq_true, decide_eq_true_eq] at h
    obtain ⟨⟨⟨h1, h2⟩, h3⟩, h4⟩ := h
    obtain ⟨o1, o2, o3⟩ := okName_ok h3
    obtain ⟨fd, ps, lvl, m1, m2, m3, m4, m5⟩ := g.fns _ h1
    exact PA.imp (pa_cons (pe_glob (v := .ref (G.fa k)) (glB_ok g h2) m1 rfl o1) (pa_fns g h4) rfl) fun σ H Q q => q
  | .BoolOp .. :: _, _, h => by simp [chkFns] at h
  | .NamedExpr .. :: _, _, h => by simp [chkFns] at h
  | .BinOp .. :: _, _, h => by simp [chkFns] at h
  | .UnaryOp .. :: _, _, h => by simp [chkFns] at h
  | .Lambda .. :: _, _, h => by simp [chkFns] at h
  | .IfExp .. :: _, _, h => by simp [chkFns] at h
  | .Dict .. :: _, _, h => by simp [chkFns] at h
  | .Set .. :: _, _, h => by simp [chkFns] at h
  | .ListComp .. :: _, _, h => by simp [chkFns] at h
  | .SetComp .. :: _, _, h => by simp [chkFns] at h
  | .DictComp .. :: _, _, h => by simp [chkFns] at h
  | .GeneratorExp .. :: _, _, h => by simp [chkFns] at h
  | .Await .. :: _, _, h => by simp [chkFns] at h
  | .Yield .. :: _, _, h => by simp [chkFns] at h
  | .YieldFrom .. :: _, _, h => by simp [chkFns] at h
  | .Compare .. :: _, _, h => by simp [chkFns] at h
  | .Call .. :: _, _, h => by simp [chkFns] at h
  | .FormattedValue .. :: _, _, h => by simp [chkFns] at h
  | .JoinedStr .. :: _, _, h => by simp [chkFns] at h
  | .Constant .. :: _, _, h => by simp [chkFns] at h
  | .Attribute .. :: _, _, h => by simp [chkFns] at h
  | .Subscript .. :: _, _, h => by simp [chkFns] at h
  | .Starred .. :: _, _, h => by simp [chkFns] at h
  | .List .. :: _, _, h => by simp [chkFns] at h
  | .Tuple .. :: _, _, h => by simp [chkFns] at h
  | .Slice .. :: _, _, h => by simp [chkFns] at h
theorem chkFns_mem {K : Ck} {sc : Scope} : ∀ {es : List Expr} {ks : List Nat}, chkFns K sc es ks = true → ∀ k ∈ ks, ∃ x, (k, x) ∈ K.fns
  | es, [], _, k, hk => by cases hk
  | es, k' :: ks, h, k, hk => by
    unfold chkFns at h
    split at h
    · rename_i e1
      cases e1
    · rename_i e1
      cases e1
      simp only [Bool.and_eq_true, decide_eq_true_eq] at h
      rcases List.mem_cons.mp hk with rfl | hk
      · exact ⟨_, h.1.1.1⟩
      · exact chkFns_mem h.2 k hk
    · cases h
theorem sel_core {C : Fx} {r : Env} {ks : List Nat} {w : Ex} {es : List Ex} {p : Addr} (e : EOk C r σ H) (hp : fz C r σ H p = some (.lst (ks.map fun k => V.ref (C.G.fa k)))) (q : PostE C W r σ H Q (ev F (.sel ks w es) r)) :
    tEv C.G F W w σ H fun y H2 => rIx C.G.K (.ref p) y H2 fun z H3 => ∃ k, k ∈ ks ∧ z = .ref (C.G.fa k) ∧ tEvs C.G F W es σ H3 fun vs H4 => spOf C.G.K C.G.fa C.G.ca (F k) vs H4 Q (WE W σ) := by
  rw [ev] at q
  refine ⟨C, rfl, r, e, ?_⟩
  cases h1 : ev F w r with
  | bad => rw [h1] at q; exact q.elim
  | exc c r1 => rw [h1] at q; exact q
  | ok v r1 =>
    rw [h1, R.bind_ok] at q
    intro y H1 e1 g1 v1
    cases v with
    | dat d =>
      have q3 : PostE C W r σ H Q ((R.of (selK ks d) r1).bind fun k _ => (evs F es r1).bind fun vs r2 => callR (F k) vs r2) := q
      clear q
      cases h2 : selK ks d with
      | none => rw [h2] at q3; exact q3.elim
      | some k =>
        rw [h2, R.of_some, R.bind_ok] at q3
        unfold selK at h2
        split at h2
        · rename_i i
          split at h2
          · rename_i hi
            have v1 : Rp (fz C r1 σ H1) (.int i) y := v1
            cases v1
            have hq : H1 p = some (.lst (ks.map fun k => V.ref (C.G.fa k))) := (msk_some.mp (g1 p _ hp)).2
            refine .inl ⟨p, _, i, .ref (C.G.fa k), rfl, rfl, .of hq, ?_, k, List.mem_of_getElem? h2, rfl, C, rfl, r1, e1, ?_⟩
            · have hlt : i.toNat < ks.length := (List.getElem?_eq_some_iff.mp h2).1
              have : ((ks.map fun k => V.ref (C.G.fa k))[i.toNat]?) = some (.ref (C.G.fa k)) := by rw [List.getElem?_map, h2]; rfl
              unfold atI ixN
              rw [if_pos hi, if_pos (show i < ((ks.map fun k => V.ref (C.G.fa k)).length : Nat) by rw [List.length_map]; omega), Option.bind_some]
              exact this
            · cases h3 : evs F es r1 with
              | bad => rw [h3] at q3; exact q3.elim
              | exc c r2 => rw [h3] at q3; exact q3
              | ok vs r2 =>
                rw [h3, R.bind_ok] at q3
                exact fun xs H2 e2 g2 v2 => call_sp e2 (g1.trans g2) v2 q3
          · cases h2
        · cases h2
    | own i => exact q.elim
    | fn k => exact q.elim
    | scr ns => exact q.elim
theorem rd_sel {ks : List Nat} {w : Ex} {es : List Ex} (hl : ks.length ≤ 1000) (q : tEv G F W (.sel ks w es) σ H Q) : tCallX G F W ks (tOp (rIx G.K) (tLst (tFns G.fa ks)) (tEv G F W w)) (tEvs G F W es) σ H Q := by
  obtain ⟨C, rfl, r, e, q⟩ := q
  refine ⟨by rw [List.length_map]; exact Nat.le_trans hl (by decide), fun p hp => ?_⟩
  have s0 : Same H (upd H p (.lst (ks.map fun k => V.ref (C.G.fa k)))) := same_upd hp
  exact sel_core (e.grown s0) (e.fresh hp) (PostE.after q (e.growS s0))
/-! a class whose __init__ raises -/
theorem asDats_ok {C : Fx} {r : Env} : ∀ {vs : List Vl} {xs : List V} {ds : List D}, VlsOk C r σ H vs xs → asDats r vs = some ds → Rps (fz C r σ H) ds xs
  | [], _, _, .nil, h => by cases h; exact .nil
  | .dat d :: vs, _, _, .cons h1 h2, h => by
    simp only [asDats, Option.map_eq_some_iff] at h
    obtain ⟨ds, h3, rfl⟩ := h
    exact .cons h1 (asDats_ok h2 h3)
  | .own _ :: _, _, _, .cons _ _, h => by cases h
  | .fn _ :: _, _, _, .cons _ _, h => by cases h
  | .scr _ :: _, _, _, .cons _ _, h => by cases h
theorem run_makeS {X : Cx} {CX : CXT} {k : Nat} {f Cl : Addr} {fd : FuncData} {ps : List Str} {sp : Sp} {E : St → XK} {pins : List (Addr × Obj)} {s : Shared} {us : List Value} {vs : List V} (M : Mk X.K Cl f) (FO : FnOk X.prog X.w X.K X.mg X.base CX k f fd ps sp) (hr : Room (k + 1) X.A) (hb : Binds X.K fd ps [])
    (hx : PassesAt CX X σ (E σ)) (I : Inv X pins σ H s) (rv : Vals vs us)
    (h : ∀ x dx, H x = none → H dx = none → dx ≠ x → sp (.ref x :: vs) (upd (upd H dx (.own x)) x (.ins Cl dx [])) (fun v H2 => v = .non ∧ Q (.ref x) H2) (E σ)) :
    wpAny (model X.prog X.w) X.A (call (.ref Cl) us) (EP X pins σ Q) X.xe s := by
  have hq := h (s.heap.objs.size + 1) s.heap.objs.size (I.hok.fresh (Nat.le_succ _)) (I.hok.fresh (Nat.le_refl _)) (Nat.ne_of_lt (Nat.lt_succ_self _))
  have J := Inv.made (C := Cl) I
  have rr : Vals (V.ref (s.heap.objs.size + 1) :: vs) (Value.ref (s.heap.objs.size + 1) :: us) := .cons rfl rv
  have len : (Value.ref (s.heap.objs.size + 1) :: us).length = ps.length := by
    rw [← rr.length]
    exact FO.len _ _ _ _ hq
  have bd := hb _ (Value.ref (s.heap.objs.size + 1) :: us) J.kIn (by rw [List.append_nil]; exact len)
  rw [List.append_nil] at bd
  refine wpAny_call (make_map (f := f) I.kIn M.makes M.init (beq_iff_eq.mp M.fn) (codeAny_mono (FO.run _ X.stack _ _ ⟨Value.ref (s.heap.objs.size + 1) :: us, []⟩ (Value.ref (s.heap.objs.size + 1) :: us) _ _ (E σ) (hr.make Cl us [])
    (J.env0.make Cl us []) bd rr hq) fun z s' hz => ?_))
  cases z with
  | error e => exact hx pins _ _ e s' J hz
  | ok fl =>
    cases fl with
    | ret u =>
      obtain ⟨v, H', I3, rv, ev, q3⟩ := J.after hz
      subst ev
      exact ⟨rv, ⟨V.ref (s.heap.objs.size + 1), H', I3, rfl, q3⟩⟩
    | next => exact hz.elim
    | brk => exact hz.elim
    | cont => exact hz.elim
def tMkX (G : Gx) (f : FnS) (W : WX) (t : TA) : TE := fun σ H Q => t σ H fun vs H1 => ∀ H2, Same H1 H2 → ∀ x, spX G.K G.ca f (V.ref x :: vs) H2 Q (WE W σ)
theorem spX_any {K : PySem.W.Frag} {ca : Nat → Addr} {f : FnS} {xs : List V} {Q' : VK} {E : XK} (h : spX K ca f xs H Q E) : spX K ca f xs H Q' E := h
theorem pe_mkX {X : Cx} {k : Nat} {f Cl : Addr} {fd : FuncData} {ps : List Str} {x : Str} {t : TA} {e : Expr} {es : List Expr} {p pos : Pos} {fn : FnS} (M : Mk X.K Cl f) (FO : FnOk X.prog X.w X.K X.mg X.base (L2N.CX X.prog X.w) k f fd ps (spX G.K G.ca fn)) (hr : Room (k + 1) X.A) (hg : Gl X x) (hm : X.mg x = some (.ref Cl)) (hb : Binds X.K fd ps [])
    (tk : L2N.Takes X W) (ha : PA X (e :: es) t) (hdb : (x == ("__debug__" : Str)) = false) (he : starEach (e :: es) X.env = (false, eval e X.env) :: starEach es X.env) (hpl : (backTo pos (starEach es X.env)).any (·.1) = false) :
    PE X (.Call (.Name x p) (e :: es) [] pos) (tMkX G fn W t) := by
  refine ⟨fun pins s σ H Q I h => ?_⟩
  refine wpAny_Call_Name_kw (ld_glob I hg hm ?_ hdb)
  refine PySem.W.callWith_K (h₀ := X.base) I.ok.mod.kin M.kp (thn (ha.run pos pins s σ H _ I h) fun us s1 ⟨vs, H1, I1, rv, q⟩ => ⟨I1.kIn, ?_⟩) he hpl
  refine run_makeS (E := WE W) M FO hr hb (L2N.passAt tk σ) I1 rv fun y dx hy hdx ne => spX_any (q _ ?_ y)
  exact (same_upd hdx).trans (same_upd (by rw [upd_ne (Ne.symm ne)]; exact hy))
theorem rd_mk {k : Nat} {es : List Ex} (q : tEv G F W (.mk k es) σ H Q) : tMkX G (F k) W (tEvs G F W es) σ H Q := by
  obtain ⟨C, rfl, r, e, q⟩ := q
  rw [ev] at q
  refine ⟨C, rfl, r, e, ?_⟩
  cases h1 : evs F es r with
  | bad => rw [h1] at q; exact q.elim
  | exc c r1 => rw [h1] at q; exact q
  | ok vs r1 =>
    rw [h1, R.bind_ok] at q
    intro xs H1 e1 g1 v1 H2 s2 x
    cases h2 : asDats r1 vs with
    | none => rw [h2] at q; exact q.elim
    | some ds =>
      rw [h2, R.of_some, R.bind_ok] at q
      have e2 := e1.grown s2
      refine ⟨_, xs, ds, Msk H2 C.os r1 σ, rfl, (asDats_ok v1 h2).mono (e1.growS s2), fun a z => e2.live' z, ?_⟩
      cases h3 : F k (ds.map .dat) with
      | exc c o =>
        rw [h3] at q
        exact fun H3 s3 => q H3 (e2.grown s3)
      | ret d o => rw [h3] at q; exact q.elim
      | bad => rw [h3] at q; exact q.elim
theorem rd_fnv {k : Nat} (q : tEv G F W (.fnv k) σ H Q) : tC (.ref (G.fa k)) σ H Q := by
  obtain ⟨C, rfl, r, e, q⟩ := q
  rw [ev] at q
  exact q _ H e (Same.refl _) rfl
end
end Ap

end
section
/-! Routers: fields, methods, steps. -/
namespace Ap
open PySem PySem.Spec PyProof.Rows L2

theorem RtK.fl {K : PySem.W.Frag} {C : Addr} (k : RtK K C) (f : Fl) : NoAttr K C f.name := by
  cases f
  · exact k.grid
  · exact k.lines
  · exact k.routes
  · exact k.kept
def flV (f : Fl) (v1 v2 v3 v4 : V) : V := match f with
  | .grid => v1
  | .lines => v2
  | .routes => v3
  | .kept => v4
theorem rtF_fld (f : Fl) {v1 v2 v3 v4 : V} {b : Addr} : (rtF v1 v2 v3 b v4).lookup f.name = some (flV f v1 v2 v3 v4) := by
  have e : ∀ x y : Str, decide (x = y) = (x == y) := fun x y => by simp [BEq.beq]
  cases f
  · show List.lookup ("grid" : Str) _ = _
    have h1 : (("grid" : Str) == "grid") = true := by decide +kernel
    simp only [rtF, List.lookup, h1]; rfl
  · show List.lookup ("lines" : Str) _ = _
    have h1 : (("lines" : Str) == "grid") = false := by decide +kernel
    have h2 : (("lines" : Str) == "lines") = true := by decide +kernel
    simp only [rtF, List.lookup, h1, h2]; rfl
  · show List.lookup ("routes" : Str) _ = _
    have h1 : (("routes" : Str) == "grid") = false := by decide +kernel
    have h2 : (("routes" : Str) == "lines") = false := by decide +kernel
    have h3 : (("routes" : Str) == "routes") = true := by decide +kernel
    simp only [rtF, List.lookup, h1, h2, h3]; rfl
  · show List.lookup ("kept" : Str) _ = _
    have h1 : (("kept" : Str) == "grid") = false := by decide +kernel
    have h2 : (("kept" : Str) == "lines") = false := by decide +kernel
    have h3 : (("kept" : Str) == "routes") = false := by decide +kernel
    have h4 : (("kept" : Str) == "steps") = false := by decide +kernel
    have h5 : (("kept" : Str) == "kept") = true := by decide +kernel
    simp only [rtF, List.lookup, h1, h2, h3, h4, h5]; rfl
theorem rtF_none {m : Str} (h : notFl m = true) {v1 v2 v3 v4 : V} {b : Addr} : (rtF v1 v2 v3 b v4).lookup m = none := by
  unfold notFl at h
  simp only [Bool.and_eq_true, Bool.not_eq_true'] at h
  obtain ⟨⟨⟨⟨h1, h2⟩, h3⟩, h4⟩, h5⟩ := h
  simp only [rtF, List.lookup, h1, h2, h3, h4, h5]
section
variable {G : Gx} {C : Fx} {W : WX} {F : Nat → FnS} {r r1 r2 : Env} {σ : St} {H H1 : Hp} {Q : VK}
theorem isRt_ok {o : Option MO} (h : isRt o = true) : ∃ g l ro st kp, o = some (.rt g l ro st kp) := by
  unfold isRt at h
  split at h
  · exact ⟨_, _, _, _, _, rfl⟩
  · cases h
/-- a slot with a router -/
theorem EOk.rt (e : EOk C r σ H) {i : Nat} {g l ro kp : D} {st : List D} (h : moOf r[i]? = some (.rt g l ro st kp)) : ∃ a dx b v1 v2 v3 v4 vs, σ[i]? = some (some (.ref a)) ∧ At r σ i a ∧ kdS r[i]? = .rt ∧ H a = some (.ins (C.fa 900) dx (rtF v1 v2 v3 b v4)) ∧ H b = some (.lst vs) ∧ Rp (fz C r σ H) g v1 ∧ Rp (fz C r σ H) l v2 ∧ Rp (fz C r σ H) ro v3 ∧ Rp (fz C r σ H) kp v4 ∧ Rps (fz C r σ H) st vs := by
  rcases moOf_some h with z | z
  · obtain ⟨v, h1, a, rfl, dx, b, v1, v2, v3, v4, vs, h2⟩ := e.slot i _ z
    exact ⟨a, dx, b, v1, v2, v3, v4, vs, h1, ⟨moOf_mut h, h1⟩, moOf_kd h, h2⟩
  · obtain ⟨v, h1, a, rfl, dx, b, v1, v2, v3, v4, vs, h2⟩ := e.slot i _ z
    exact ⟨a, dx, b, v1, v2, v3, v4, vs, h1, ⟨moOf_mut h, h1⟩, moOf_kd h, h2⟩
theorem rd_fld {i : Nat} {f : Fl} (hK : RtK G.K (G.fa 900)) (q : tEv G F W (.fld i f) σ H Q) : tFld G.K (tVar i) f.name σ H Q := by
  obtain ⟨C, rfl, r, e, q⟩ := q
  rw [ev] at q
  cases hm : moOf r[i]? with
  | none => rw [hm] at q; exact q.elim
  | some o =>
    rw [hm, Option.bind_some] at q
    cases o with
    | rt g l ro st kp =>
      obtain ⟨a, dx, b, v1, v2, v3, v4, vs, h1, _, _, h2, h3, r1, r2, r3, r4, r5⟩ := e.rt hm
      refine ⟨_, h1, a, _, dx, _, _, rfl, h2, hK.cls, hK.fl f, rtF_fld f, ?_⟩
      cases f
      · exact q _ H e (Same.refl _) r1
      · exact q _ H e (Same.refl _) r2
      · exact q _ H e (Same.refl _) r3
      · exact q _ H e (Same.refl _) r4
    | _ => exact q.elim
/-- r.steps -/
theorem steps_at (hK : RtK G.K (G.fa 900)) (hC : C.G = G) (e : EOk C r σ H) {i : Nat} {g l ro kp : D} {st : List D} (h : moOf r[i]? = some (.rt g l ro st kp)) {Q' : VK} (k : ∀ b vs, H b = some (.lst vs) → Rps (fz C r σ H) st vs → Q' (.ref b) H) : tFld G.K (tVar i) "steps" σ H Q' := by
  subst hC
  obtain ⟨a, dx, b, v1, v2, v3, v4, vs, h1, _, _, h2, h3, r1, r2, r3, r4, r5⟩ := e.rt h
  exact ⟨_, h1, a, _, dx, _, _, rfl, h2, hK.cls, hK.steps, rtF_steps, k b vs h3 r5⟩
theorem rd_flen {i : Nat} (hK : RtK G.K (G.fa 900)) (q : tEv G F W (.flen i) σ H Q) : tCB (fun xs H Q => ∃ x n, xs = [x] ∧ LenV G.K x H n ∧ Q (.int n) H) (tCons (tFld G.K (tVar i) "steps") tNil) σ H Q := by
  obtain ⟨C, rfl, r, e, q⟩ := q
  rw [ev] at q
  cases hm : moOf r[i]? with
  | none => rw [hm] at q; exact q.elim
  | some o =>
    rw [hm, Option.bind_some] at q
    cases o with
    | rt g l ro st kp =>
      refine steps_at hK rfl e hm fun b vs h1 h2 => ⟨_, vs.length, rfl, .inl ⟨vs, .of h1, rfl⟩, ?_⟩
      rw [← h2.length]
      exact q _ H e (Same.refl _) (.int _)
    | _ => exact q.elim
/-- the steps are changed -/
theorem EOk.steps (e : EOk C r σ H) {i : Nat} {g l ro kp : D} {st st' : List D} {b : Addr} {vs vs' : List V} (h : moOf r[i]? = some (.rt g l ro st kp)) (hs : ∃ a dx v1 v2 v3 v4, σ[i]? = some (some (.ref a)) ∧ H a = some (.ins (C.fa 900) dx (rtF v1 v2 v3 b v4))) (hb : H b = some (.lst vs)) (rp : Rps (fz C r σ H) st' vs') :
    EOk C (putMo r i (.rt g l ro st' kp)) σ (upd H b (.lst vs')) ∧ Grow C r (putMo r i (.rt g l ro st' kp)) σ H (upd H b (.lst vs')) := by
  obtain ⟨a, dx, b', v1, v2, v3, v4, us, h1, at_, kd, h2, h3, r1, r2, r3, r4, r5⟩ := e.rt h
  obtain ⟨a', dx', w1, w2, w3, w4, z1, z2⟩ := hs
  rw [h1] at z1
  cases z1
  rw [h2] at z2
  have hbb : b' = b := by
    have l1 := rtF_steps (v1 := v1) (v2 := v2) (v3 := v3) (v4 := v4) (b := b')
    cases z2
    rfl
  subst hbb
  have hne : b' ≠ a := fun z => by rw [z, h2] at hb; cases hb
  have ha : (upd H b' (.lst vs')) a = some (.ins (C.fa 900) dx (rtF v1 v2 v3 b' v4)) := by rw [upd_ne hne.symm]; exact h2
  refine e.changeG at_ kd.symm (fun c u w hc => ?_) (fun c => ?_) ⟨dx, b', v1, v2, v3, v4, vs', ha, upd_same, r1, r2, r3, r4, rp⟩
  · rw [upd_ne (fun z => w ((own_rt h2).mpr (.inr z)))]
    exact hc
  · show Own .rt _ _ _ ↔ Own .rt _ _ _
    rw [own_rt ha, own_rt h2]
theorem rd_fpop {i : Nat} (hK : RtK G.K (G.fa 900)) (q : tEv G F W (.fpop i) σ H Q) : tBM0 G.K "list" rPop (tFld G.K (tVar i) "steps") σ H Q := by
  obtain ⟨C, rfl, r, e, q⟩ := q
  rw [ev] at q
  unfold fpopL at q
  split at q
  · rename_i g l ro st kp hm
    split at q
    · rename_i d hd
      obtain ⟨a, dx, b, v1, v2, v3, v4, vs, h1, _, _, h2, h3, _, _, _, _, h5⟩ := e.rt hm
      refine ⟨_, h1, a, _, dx, _, _, rfl, h2, hK.cls, hK.steps, rtF_steps, .inl ⟨rfl, vs, .of h3⟩, ?_⟩
      have hl : st[st.length - 1]? = some d := by rw [List.getLast?_eq_getElem?] at hd; exact hd
      obtain ⟨v, z1, z2⟩ := h5.get hl
      obtain ⟨e1, g1⟩ := e.steps hm ⟨a, dx, v1, v2, v3, v4, h1, h2⟩ h3 h5.dropLast
      exact ⟨b, vs, v, rfl, rfl, h3, by rw [← h5.length]; exact z1, q v _ e1 g1 (z2.mono g1)⟩
    · exact q.elim
  · exact q.elim
/-! methods -/
def tMethS (Cl : Addr) (m : Str) (sp : Sp) (E : St → XK) (ta : TE) (t : TA) : TE := fun σ H Q => ta σ H fun x H1 => ∃ a dx fs, x = .ref a ∧ H1 a = some (.ins Cl dx fs) ∧ fs.lookup m = none ∧ t σ H1 fun vs H2 => sp (x :: vs) H2 Q (E σ)
section
variable {X : Cx} {CX : CXT} {k : Nat} {f Cl : Addr} {fd : FuncData} {ps : List Str} {sp : Sp} {E : St → XK} {m : Str} {o e : Expr} {es : List Expr} {ta : TE} {t : TA} {p apos pos : Pos}
theorem pe_mth (he : PE X o ta) (c : Cls X.K Cl) (hm : Meth X.K Cl m f) (FO : FnOk X.prog X.w X.K X.mg X.base CX k f fd ps sp) (hr : Room k X.A) (hb : Binds X.K fd ps []) (hx : ∀ σ, PassesAt CX X σ (E σ)) (ha : PA X (e :: es) t)
    (hbase : attributeBase o m X.env (eval o X.env) = eval o X.env) (hform : methodCallForm ((e :: es).length + ([] : List Keyword).length) (backTo pos (starEach (e :: es) X.env)) (backToKw pos (keywordEach [] X.env)) = true) (hline : (apos.endLine == pos.line) = true)
    (hst : starEach (e :: es) X.env = (false, eval e X.env) :: starEach es X.env) (hpl : (backTo pos (starEach es X.env)).any (·.1) = false) :
    PE X (.Call (.Attribute o m apos) (e :: es) [] pos) (tMethS Cl m sp E ta t) := by
  refine ⟨fun pins s σ H Q I h => ?_⟩
  have hpos : methodCallPos true o X.env apos pos = pure pos := by unfold methodCallPos; simp [hline]
  rw [arm_eval_Call, hbase]
  refine wpAny_bind (wpAny_mono (he.run pins s σ H _ I h) (fun u s1 ⟨x, H1, I1, rx, a, dx, fs, ex, ea, l, q⟩ => ?_) fun _ _ e => e)
  refine wpAny_bind (wpAny_standAt ?_)
  subst ex
  obtain rfl : u = Value.ref a := rx
  unfold methodCall
  rw [hform]
  refine wpAny_bind (wpAny_holding (getmeth_ok I1 ea c hm l ?_))
  refine wpAny_bind (wpAny_of_eq hpos ?_)
  refine PySem.W.callWith_K (first := [.ref a]) (h₀ := X.base) I.ok.mod.kin hm.kp (thn (ha.run pos pins s1 σ H1 _ I1 q) fun us s2 ⟨vs, H2, I2, r, q2⟩ => ⟨I2.kIn, ?_⟩) hst hpl
  exact run_fnS (us := .ref a :: us) (vs := .ref a :: vs) FO hr hb (hx σ) I2 (.cons rfl r) q2
theorem pe_mth0 (he : PE X o ta) (c : Cls X.K Cl) (hm : Meth X.K Cl m f) (FO : FnOk X.prog X.w X.K X.mg X.base CX k f fd ps sp) (hr : Room k X.A) (hb : Binds X.K fd ps []) (hx : ∀ σ, PassesAt CX X σ (E σ))
    (hbase : attributeBase o m X.env (eval o X.env) = eval o X.env) (hline : (apos.endLine == pos.line) = true) :
    PE X (.Call (.Attribute o m apos) [] [] pos) (tMethS Cl m sp E ta tNil) := by
  refine ⟨fun pins s σ H Q I h => ?_⟩
  have hpos : methodCallPos true o X.env apos pos = pure pos := by unfold methodCallPos; simp [hline]
  have hform : methodCallForm (([] : List Expr).length + ([] : List Keyword).length) (backTo pos (starEach [] X.env)) (backToKw pos (keywordEach [] X.env)) = true := rfl
  rw [arm_eval_Call, hbase]
  refine wpAny_bind (wpAny_mono (he.run pins s σ H _ I h) (fun u s1 ⟨x, H1, I1, rx, a, dx, fs, ex, ea, l, q⟩ => ?_) fun _ _ e => e)
  refine wpAny_bind (wpAny_standAt ?_)
  subst ex
  obtain rfl : u = Value.ref a := rx
  unfold methodCall
  rw [hform]
  refine wpAny_bind (wpAny_holding (getmeth_ok I1 ea c hm l ?_))
  refine wpAny_bind (wpAny_of_eq hpos ?_)
  exact PySem.W.callWith_K0 (first := [.ref a]) I1.kIn hm.kp (run_fnS (us := [.ref a]) (vs := [.ref a]) FO hr hb (hx σ) I1 (.cons rfl .nil) q)
end
/-- a call with given values -/
theorem call_rd {k : Nat} {vs : List Vl} {xs : List V} (e : EOk C r σ H) (v : VlsOk C r σ H vs xs) (q : PostE C W r σ H Q (callR (F k) vs r)) : spOf C.K C.fa C.ca (F k) xs H Q (WE W σ) := by
  unfold callR at q
  cases h2 : argsOf r vs with
  | none => rw [h2] at q; exact q.elim
  | some as =>
    rw [h2] at q
    simp only at q
    split at q
    · rename_i nd
      refine ⟨_, as, args_ok e v h2 nd, ?_⟩
      cases h3 : F k as with
      | bad => rw [h3] at q; exact q.elim
      | exc c outs =>
        rw [h3] at q
        exact fun H' p => q H' (call_after e v h2 nd p).1
      | ret d outs =>
        rw [h3] at q
        intro v' H' p rp
        obtain ⟨e2, g2, k2⟩ := call_after e v h2 nd p
        exact q v' H' e2 g2 (k2 d v' rp)
    · exact q.elim
theorem rd_meth {k i : Nat} {es : List Ex} {m : Str} (hn : notFl m = true) (q : tEv G F W (.meth k i es) σ H Q) : tMethS (G.fa 900) m (spOf G.K G.fa G.ca (F k)) (WE W) (tVar i) (tEvs G F W es) σ H Q := by
  obtain ⟨C, rfl, r, e, q⟩ := q
  rw [ev] at q
  split at q
  · rename_i hi
    obtain ⟨g, l, ro, st, kp, hm⟩ := isRt_ok hi
    obtain ⟨a, dx, b, v1, v2, v3, v4, vs, h1, _, _, h2, _⟩ := e.rt hm
    refine ⟨_, h1, a, dx, _, rfl, h2, rtF_none hn, C, rfl, r, e, ?_⟩
    cases h3 : evs F es r with
    | bad => rw [h3] at q; exact q.elim
    | exc c r1 => rw [h3] at q; exact q
    | ok ws r1 =>
      rw [h3, R.bind_ok] at q
      intro xs H1 e1 g1 w1
      split at q
      · exact call_rd e1 (Paired.cons (a := Vl.own i) (show VlOk C r1 σ H1 (.own i) (.ref a) from h1) w1) (PostE.after q g1)
      · exact q.elim
  · exact q.elim
end
end Ap

end
section
/-! Routers: new ones, stored fields, steps added. -/
namespace Ap
open PySem PySem.Spec PyProof.Rows L2

def tMkI (G : Gx) (f : FnS) (W : WX) (t : TA) : TE := fun σ H Q => t σ H fun vs H1 => ∀ x dx, H1 x = none → H1 dx = none → dx ≠ x → spI G f (.ref x :: vs) (upd (upd H1 dx (.own x)) x (.ins (G.fa 900) dx [])) (fun v H2 => v = .non ∧ Q (.ref x) H2) (WE W σ)
section
variable {G : Gx} {C : Fx} {W : WX} {F : Nat → FnS} {r r1 r2 : Env} {σ : St} {H H1 : Hp} {Q : VK}
theorem pe_mkI {X : Cx} {x : Str} {t : TA} {e : Expr} {es : List Expr} {p pos : Pos} (M : MiGood X G F) (hg : Gl X x) (hm : X.mg x = some (.ref (G.fa 900)))
    (tk : L2N.Takes X W) (ha : PA X (e :: es) t) (hdb : (x == ("__debug__" : Str)) = false) (he : starEach (e :: es) X.env = (false, eval e X.env) :: starEach es X.env) (hpl : (backTo pos (starEach es X.env)).any (·.1) = false) :
    PE X (.Call (.Name x p) (e :: es) [] pos) (tMkI G (F 900) W t) := by
  obtain ⟨f, fd, ps, lvl, M1, M2, M3, M4⟩ := M
  refine ⟨fun pins s σ H Q I h => ?_⟩
  refine wpAny_Call_Name_kw (ld_glob I hg hm ?_ hdb)
  refine PySem.W.callWith_K (h₀ := X.base) I.ok.mod.kin M1.kp (thn (ha.run pos pins s σ H _ I h) fun us s1 ⟨vs, H1, I1, rv, q⟩ => ⟨I1.kIn, ?_⟩) he hpl
  exact run_makeS (E := WE W) M1 M3 M4 M2 (L2N.passAt tk σ) I1 rv q
/-- new objects are masked -/
theorem EOk.lockP {P : Addr → Prop} {H' : Hp} (e : EOk C r σ H) (s : Same H H') (hP : ∀ a, P a → H a = none ∧ ∃ o, H' a = some o) :
    EOk { C with os := fun a => C.os a ∨ P a } r σ H' ∧ Same (fz C r σ H) (fz { C with os := fun a => C.os a ∨ P a } r σ H') := by
  have mu := e.mutS s
  have g : Same (fz C r σ H) (fz { C with os := fun a => C.os a ∨ P a } r σ H') := fun a o q => by
    obtain ⟨h1, h2⟩ := msk_some.mp q
    refine msk_some.mpr ⟨fun z => ?_, s a o h2⟩
    rcases z with (z | z) | ⟨j, z⟩
    · exact h1 (.inl z)
    · rw [(hP a z).1] at h2
      cases h2
    · exact h1 (.inr ⟨j, (mu j a).mp z⟩)
  refine ⟨⟨e.len, fun j t q => ?_, fun i j a z1 z2 => e.inj i j a ((mu i a).mp z1) ((mu j a).mp z2), fun a z => ?_, fun a o q n => s a o (e.base a o q n), fun j o b q1 q2 => ?_, e.bor, e.borsT mu⟩, g⟩
  · obtain ⟨w, z1, z2⟩ := e.slot j t q
    exact ⟨w, z1, z2.mono g fun a b o _ _ _ z => s b o z⟩
  · rcases z with z | z
    · obtain ⟨o, ho⟩ := e.live a z
      exact ⟨o, s a o ho⟩
    · exact (hP a z).2
  · have q2 := (mu j b).mp q2
    obtain ⟨z1, z2⟩ := e.new j o b q1 q2
    refine ⟨z1, fun z => ?_⟩
    rcases z with z | z
    · exact z2 z
    · exact e.notN (hP b z).1 j b q2 rfl
/-- a new router, behind __init__ -/
theorem made_ok {ds : List D} {vs : List V} {g0 l0 ro : D} {v1 v2 v3 : V} {b x dx : Addr} {H' : Hp} {r1 : Env} (e1 : EOk C r1 σ H1) (hx : H1 x = none) (hdx : H1 dx = none) (ne : dx ≠ x) (rg : Rp (fz C r1 σ H1) g0 v1) (rl : Rp (fz C r1 σ H1) l0 v2)
    (hb : (upd (upd H1 dx (.own x)) x (.ins (C.fa 900) dx [])) b = none) (hk : ∀ a o, a ≠ x → (upd (upd H1 dx (.own x)) x (.ins (C.fa 900) dx [])) a = some o → H' a = some o) (hx' : H' x = some (.ins (C.fa 900) dx (rtF v1 v2 v3 b (.int 0)))) (hb' : H' b = some (.lst []))
    (rr : Rp (msk H' fun a => (Msk H1 C.os r1 σ a ∨ a = x) ∨ a = b) ro v3) :
    ∃ C' : Fx, C' = { C with os := fun a => C.os a ∨ (a = x ∨ a = b) } ∧ EOk C' r1 σ H' ∧ Same H1 H' ∧ Same (fz C r1 σ H1) (fz C' r1 σ H') ∧ H1 b = none ∧ b ≠ x ∧ MoOk (C.fa 900) (fz C' r1 σ H') H' x (.rt g0 l0 ro [] (.int 0)) := by
  have hbx : b ≠ x := fun z => by rw [z, upd_same] at hb; cases hb
  have hbd : b ≠ dx := fun z => by rw [z, upd_ne ne, upd_same] at hb; cases hb
  have hb1 : H1 b = none := by rw [upd_ne hbx, upd_ne hbd] at hb; exact hb
  have s : Same H1 H' := fun a o h => by
    have ax : a ≠ x := fun z => by rw [z, hx] at h; cases h
    have ad : a ≠ dx := fun z => by rw [z, hdx] at h; cases h
    exact hk a o ax (by rw [upd_ne ax, upd_ne ad]; exact h)
  obtain ⟨e2, g2⟩ := e1.lockP (P := fun a => a = x ∨ a = b) s fun a z => by
    rcases z with rfl | rfl
    · exact ⟨hx, _, hx'⟩
    · exact ⟨hb1, _, hb'⟩
  refine ⟨_, rfl, e2, s, g2, hb1, hbx, dx, b, v1, v2, v3, .int 0, [], hx', hb', rg.mono g2, rl.mono g2, rr.mono (msk_le fun a z => ?_), .int 0, .nil⟩
  rcases z with (z | z | z) | ⟨j, z⟩
  · exact .inl (.inl (.inl z))
  · exact .inl (.inr z)
  · exact .inr z
  · exact .inl (.inl (.inr ⟨j, (e1.mutS s j a).mp z⟩))
theorem rs_mkS {i : Nat} {es : List Ex} {D : Ends} (q : tRun G F W (.mkS i es) D σ H) : tAsg (tMkI G (F 900) W (tEvs G F W es)) (gName i) D σ H := by
  obtain ⟨C, rfl, r, ek, q⟩ := q
  rw [run] at q
  refine ⟨C, rfl, r, ek, ?_⟩
  cases h1 : evs F es r with
  | bad => rw [h1] at q; exact q.elim
  | exc c r1 => rw [h1] at q; exact fun H' e' => q σ H' e'
  | ok vs r1 =>
    rw [h1, R.st_ok] at q
    intro xs H1 e1 g1 v1 x dx hx hdx ne
    cases h2 : asDats r1 vs with
    | none => rw [h2] at q; exact q.elim
    | some ds =>
      rw [h2, R.of_some, R.st_ok] at q
      have rp := asDats_ok v1 h2
      match ds, rp, q with
      | [g0, l0], .cons (v := va) rg (.cons (v := vb) rl .nil), q =>
        have s0 : Same H1 (upd (upd H1 dx (.own x)) x (.ins (C.fa 900) dx [])) := (same_upd hdx).trans (same_upd (by rw [upd_ne (Ne.symm ne)]; exact hx))
        have sm : Same (fz C r1 σ H1) (msk (upd (upd H1 dx (.own x)) x (.ins (C.fa 900) dx [])) fun a => Msk H1 C.os r1 σ a ∨ a = x) := fun a o z => by
          obtain ⟨z1, z2⟩ := msk_some.mp z
          refine msk_some.mpr ⟨fun w => ?_, s0 a o z2⟩
          rcases w with w | w
          · exact z1 w
          · rw [w, hx] at z2; cases z2
        refine ⟨x, dx, va, vb, g0, l0, fun a => Msk H1 C.os r1 σ a ∨ a = x, rfl, upd_same, .inr rfl, fun a z => ?_, rg.mono sm, rl.mono sm, ?_⟩
        · rcases z with z | z
          · obtain ⟨o, ho⟩ := e1.live' z
            exact ⟨o, s0 a o ho⟩
          · exact ⟨_, by rw [z]; exact upd_same⟩
        · have q : PostS C W D (fz C r σ H) (mkRt r1 i [g0, l0] (F 900 [.dat g0, .dat l0])) := q
          cases h3 : F 900 [.dat g0, .dat l0] with
          | bad => rw [h3] at q; exact q.elim
          | exc c o =>
            rw [h3] at q
            exact fun H' hk => q σ H' (e1.grown fun a o z => by
              have ax : a ≠ x := fun w => by rw [w, hx] at z; cases z
              exact hk a o ax (s0 a o z))
          | ret ro o =>
            rw [h3] at q
            intro b v3 H' hb hk hx' hb' rr
            refine ⟨rfl, ?_⟩
            have q : PostS C W D (fz C r σ H) (RS.of (setS r1 i (.own (.rt g0 l0 ro [] (.int 0))))) := q
            unfold setS at q
            split at q
            · exact q.elim
            · rename_i nb
              obtain ⟨C', hC', e2, s, g2, hb1, hbx, mo⟩ := made_ok (ds := []) (vs := []) e1 hx hdx ne rg rl hb hk hx' hb' rr
              have hP : ∀ c, (c = x ∨ c = b) → H1 c = none := fun c z => by rcases z with rfl | rfl <;> assumption
              have key := EOk.adoptG (C := C) (C' := C') (P := fun a => a = x ∨ a = b) (i := i) (a := x) (o := .rt g0 l0 ro [] (.int 0)) (by rw [hC']) (fun c => by rw [hC']) (by rw [hC']) (by rw [hC']) (by rw [hC']; exact Same.refl _) (fun p hp c => by rw [hC']) (fun c z => ⟨e1.h0 (hP c z), (fun w => by
                obtain ⟨o, ho⟩ := e1.live c w
                rw [hP c z] at ho
                cases ho), e1.nobs (hP c z)⟩) e2 (by simpa using nb) (fun c w => (own_rt hx').mp (show Own .rt H' x c from w)) mo
              exact q _ H' key.1 ((g1.trans g2).trans key.2)
      | [], .nil, q => exact q.elim
      | [_], .cons _ .nil, q => exact q.elim
      | _ :: _ :: _ :: _, .cons _ (.cons _ (.cons _ _)), q => exact q.elim
/-! fields are stored -/
theorem rtF_put (f : Fl) {v1 v2 v3 v4 y : V} {b : Addr} : putF f.name y (rtF v1 v2 v3 b v4) = (match f with
    | .grid => rtF y v2 v3 b v4
    | .lines => rtF v1 y v3 b v4
    | .routes => rtF v1 v2 y b v4
    | .kept => rtF v1 v2 v3 b y) := by
  have n1 : ¬ (("grid" : Str) = "lines") := by decide +kernel
  have n2 : ¬ (("grid" : Str) = "routes") := by decide +kernel
  have n3 : ¬ (("grid" : Str) = "kept") := by decide +kernel
  have n4 : ¬ (("lines" : Str) = "routes") := by decide +kernel
  have n5 : ¬ (("lines" : Str) = "kept") := by decide +kernel
  have n6 : ¬ (("routes" : Str) = "kept") := by decide +kernel
  have n7 : ¬ (("steps" : Str) = "kept") := by decide +kernel
  cases f
  · simp only [Fl.name, putF, if_true]
  · simp only [Fl.name, putF, if_neg n1, if_true]
  · simp only [Fl.name, putF, if_neg n2, if_neg n4, if_true]
  · simp only [Fl.name, putF, if_neg n3, if_neg n5, if_neg n6, if_neg n7, if_true]
theorem rs_setf {i : Nat} {f : Fl} {x : Ex} {D : Ends} (hK : RtK G.K (G.fa 900)) (q : tRun G F W (.setf i f x) D σ H) : sFld G.K (tVar i) (tEv G F W x) f.name D σ H := by
  obtain ⟨C, rfl, r, ek, q⟩ := q
  rw [run] at q
  refine ⟨C, rfl, r, ek, ?_⟩
  cases h1 : ev F x r with
  | bad => rw [h1] at q; exact q.elim
  | exc c r1 => rw [h1] at q; exact fun H' e' => q σ H' e'
  | ok v r1 =>
    rw [h1, R.st_ok] at q
    intro y H1 e1 g1 v1
    cases v with
    | dat d =>
      rw [asDat, R.st_ok] at q
      unfold setfD at q
      cases hm : moOf r1[i]? with
      | none => rw [hm] at q; exact q.elim
      | some o =>
        rw [hm, Option.bind_some] at q
        cases o with
        | rt g0 l0 ro st kp =>
          have v1 : Rp (fz C r1 σ H1) d y := v1
          obtain ⟨a, dx, b, w1, w2, w3, w4, vs, h2, at_, kd, h3, h4, r1', r2', r3', r4', r5'⟩ := e1.rt hm
          refine ⟨_, h2, a, _, dx, _, rfl, h3, hK.cls, hK.fl f, by simp [rtF], ?_⟩
          rw [rtF_put]
          have hne : b ≠ a := fun z => by rw [z, h3] at h4; cases h4
          have fin : ∀ (o' : MO) (u1 u2 u3 u4 : V), o'.kd = .rt → MoOk (C.fa 900) (fz C r1 σ H1) (upd H1 a (.ins (C.fa 900) dx (rtF u1 u2 u3 b u4))) a o' → PostS C W D (fz C r σ H) (RS.of (some (putMo r1 i o'))) → D.nx σ (upd H1 a (.ins (C.fa 900) dx (rtF u1 u2 u3 b u4))) := fun o' u1 u2 u3 u4 hk mo q => by
            obtain ⟨e2, g2⟩ := e1.changeG at_ (hk.trans kd.symm) (fun c u w hc => by
              rw [upd_ne (fun z => w (.inl z))]
              exact hc) (fun c => by rw [hk, own_rt upd_same, own_rt h3]) mo
            exact q σ _ e2 (g1.trans g2)
          have hb' : ∀ u1 u2 u3 u4, (upd H1 a (.ins (C.fa 900) dx (rtF u1 u2 u3 b u4))) b = some (.lst vs) := fun u1 u2 u3 u4 => by rw [upd_ne hne]; exact h4
          cases f
          · exact fin (.rt d l0 ro st kp) y w2 w3 w4 rfl ⟨dx, b, y, w2, w3, w4, vs, upd_same, hb' .., v1, r2', r3', r4', r5'⟩ q
          · exact fin (.rt g0 d ro st kp) w1 y w3 w4 rfl ⟨dx, b, w1, y, w3, w4, vs, upd_same, hb' .., r1', v1, r3', r4', r5'⟩ q
          · exact fin (.rt g0 l0 d st kp) w1 w2 y w4 rfl ⟨dx, b, w1, w2, y, w4, vs, upd_same, hb' .., r1', r2', v1, r4', r5'⟩ q
          · exact fin (.rt g0 l0 ro st d) w1 w2 w3 y rfl ⟨dx, b, w1, w2, w3, y, vs, upd_same, hb' .., r1', r2', r3', v1, r5'⟩ q
        | _ => exact q.elim
    | _ => exact q.elim
theorem rs_fapp {i n : Nat} {D : Ends} (hK : RtK G.K (G.fa 900)) (q : tRun G F W (.fapp i n) D σ H) : tDrop (tBM G.K "list" rAppend (tFld G.K (tVar i) "steps") (tCons (tVar n) tNil)) D σ H := by
  obtain ⟨C, rfl, r, ek, q⟩ := q
  rw [run] at q
  cases h4 : rdVar r n with
  | bad => rw [h4] at q; exact q.elim
  | exc c r1 =>
    unfold rdVar at h4
    split at h4 <;> cases h4
  | ok v r1 =>
    rw [h4, R.st_ok] at q
    cases v with
    | dat d =>
      rw [asDat, R.st_ok] at q
      obtain ⟨y, hy, rp⟩ : ∃ y, σ[n]? = some (some y) ∧ Rp (fz C r σ H) d y := by
        unfold rdVar at h4
        split at h4
        · rename_i d' hd
          cases h4
          exact ek.slot n _ hd
        all_goals cases h4
      unfold fappD at q
      split at q
      · rename_i g l ro st kp hm
        split at q
        · rename_i hl
          obtain ⟨a, dx, b, v1, v2, v3, v4, vs, h1, _, _, h2, h3, _, _, _, _, h5⟩ := ek.rt hm
          refine ⟨_, h1, a, _, dx, _, _, rfl, h2, hK.cls, hK.steps, rtF_steps, .inl ⟨rfl, vs, .of h3⟩, _, hy, b, vs, y, rfl, rfl, h3, by rw [← h5.length, ← lim_eq]; exact hl, ?_⟩
          obtain ⟨e1, g1⟩ := ek.steps hm ⟨a, dx, v1, v2, v3, v4, h1, h2⟩ h3 (h5.append (.cons rp .nil))
          exact q σ _ e1 g1
        · exact q.elim
      · exact q.elim
    | _ => exact q.elim
end
end Ap

end
section
/-! len(x), str(x), x == y, x != y by an instance's own defs. -/
namespace Ap
open PySem PySem.Spec PyProof.Rows L2

section
variable {prog : Program} {w : World} {K : PySem.W.Frag} {A : Around} {E : Value → Shared → Prop} {s : Shared} {x C f : Addr} {ox : Obj} {od : Option Obj}
theorem cspecF {M : Model} {name : Str} {args : List Value} {Q : Option Value → Shared → Prop} (X : K.In s.heap) (I : PySem.W.InstAt s.heap x ox C od) (hs : PySem.W.findIn K (.ref C) name = some (some (.ref f))) (hf : PySem.W.isFn K (.ref f) = true)
    (hc : wpAny M A (call (.ref f) (.ref x :: args)) (fun v => Q (some v)) E s) : wpAny M A (callSpecial? (.ref x) name args) Q E s := by
  simp only [callSpecial?]
  refine wpAny_bind (wpAny_bind (I.type.here ((PySem.W.looks_findIn X hs).here ?_)))
  exact wpAny_holding (wpAny_bind ((PySem.W.bind_fn X _ (beq_iff_eq.mp hf)).here (wpAny_bind (wpAny_mono hc (fun v s' h' => wpAny_pure h') fun _ _ h' => h'))))
/-- len(x) -/
theorem len_own {Q : Value → Shared → Prop} (X : K.In s.heap) (I : PySem.W.InstAt s.heap x ox C od) (hs : PySem.W.findIn K (.ref C) "__len__" = some (some (.ref f))) (hf : PySem.W.isFn K (.ref f) = true)
    (h : wpAny (model prog w) A.in1 (call (.ref f) [.ref x]) (fun v s' => ∃ (n : Nat) (t : Tok), v = .int n t ∧ n < 1000000 ∧ Q (.int n s'.toks) { s' with toks := s'.toks + 1 }) E s) : wpAny (model prog w) A (call (.builtin "len") [.ref x]) Q E s := by
  refine Calls.call_function_entry kind_len plain_len entry_len (args_len1 _) ?_
  unfold Builtin.«len»
  refine wpAny_bind (m := oneArg "len" _) (wpAny_pure ?_)
  refine wpAny_bind (m := callSpecial? (.ref x) (PySem.Str.ofString "__len__")) (cspecF X I hs hf (wpAny_mono h (fun v s' hv => ?_) fun _ _ e => e))
  obtain ⟨n, t, rfl, hn, q⟩ := hv
  refine wpAny_bind (wpAny_holding (wpAny_pure ?_))
  refine wpAny_bind (wpAny_letGo ?_)
  show wpAny _ _ (if ((n : Nat) : Int) < 0 then _ else _) _ _ _
  rw [if_neg (by omega)]
  show wpAny _ _ (if ((n : Nat) : Int) ≥ 2 ^ 63 then _ else _) _ _ _
  rw [if_neg (by omega)]
  exact wpAny_bind (wpAny_mkInt (wpAny_pure ⟨_, rfl, q⟩))
/-- str(x) -/
theorem str_own {Q : Value → Shared → Prop} (X : K.In s.heap) (I : PySem.W.InstAt s.heap x ox C od) (hs : PySem.W.findIn K (.ref C) "__str__" = some (some (.ref f))) (hf : PySem.W.isFn K (.ref f) = true) (hu : A.units + 2 < cLine)
    (h : wpAny (model prog w) A.in1.in1 (call (.ref f) [.ref x]) (fun r s₁ => ∃ m u, r = Value.str m u ∧ Q r s₁) E s) : wpAny (model prog w) A (call (.type "str") [.ref x]) Q E s := by
  refine callType_codes (T := "str") (Bi := Builtin.«object.__init__») (Q₁ := fun r s₁ => ∃ m u, r = Value.str m u ∧ Q r s₁) PySem.F.called_str (PySem.F.typeCall_str_1 _) PySem.F.entry_object_init ?_ ?_
  · refine codeAny_of_tree ?_
    show wpAny _ A.in1.in1 (do checkBuiltinCall "str.__new__" ⟨[.type "str", .ref x], []⟩; again (.builtin "str.__new__" ⟨[.type "str", .ref x], []⟩)) _ _ s
    refine wpAny_bind (wpAny_of_eq (PySem.F.newCall_str_1 _) (wpAny_pure ⟨plainId_quiet (by decide +kernel) _, codeAny_builtin PySem.F.entry_str_new ?_⟩))
    rw [Around.under_plainId (by decide +kernel) _]
    rw [str_new_tree]
    refine wpAny_bind (wpAny_pure ?_)
    refine wpAny_bind (wpAny_of_eq isSubtype_str_str ?_)
    refine wpAny_bind ?_
    unfold Builtin.Str.strOf
    refine wpAny_ite_false rfl ?_
    refine wpAny_bind (wpAny_cRoomFor (show A.units + 1 + 1 < cLine by omega) ?_)
    refine wpAny_bind (m := callSpecial? (.ref x) (PySem.Str.ofString "__str__")) (cspecF X I hs hf (wpAny_mono h (fun r s₁ hr => ?_) fun _ _ e => e))
    obtain ⟨m, u, rfl, hq⟩ := hr
    refine wpAny_bind (wpAny_pure ?_)
    refine wpAny_ite_false rfl ?_
    refine wpAny_bind (wpAny_pure ?_)
    exact wpAny_pure (wpAny_pure ⟨m, u, rfl, hq⟩)
  · rintro obj s₁ ⟨m, u, rfl, hq⟩
    exact ⟨typeIs_str _ _ _, PySem.F.args_object_init_2 _ _, object_init_meets PySem.F.called_str.init.lookup PySem.F.called_str.made (by decide) prog w A.in1 _ s₁ ⟨typeIs_str _ _ _, rfl, hq⟩⟩
/-- x != y, by an own == -/
theorem ne_own {b tb : Value} {h₀ : Heap} {L : Addr} {m : Str → Option Value} {Q : Value → Shared → Prop} (hu : A.units + 1 < cLine) (FR : Fr h₀ L s.heap m) (X₀ : K.In h₀) (I : PySem.W.InstAt s.heap x ox C od) (hb : PySem.W.Looks (model prog w) s.heap (typeOf b) tb) (hn : PySem.W.notFirst K C tb = true)
    (hne : PySem.W.findIn K (.ref C) "__ne__" = some (some (.builtin "object.__ne__"))) (hin : PySem.W.subIn K (.ref C) (.type "object") = some true) (hs : PySem.W.findIn K (.ref C) "__eq__" = some (some (.ref f))) (hf : PySem.W.isFn K (.ref f) = true)
    (h : wpAny (model prog w) A.in1 (call (.ref f) [.ref x, b]) (fun v s' => ∃ r, v = .bool r ∧ Q (.bool (!r)) s') E s) : wpAny (model prog w) A (richCompare .NotEq (.ref x) b) Q E s := by
  have X := X₀.keeps FR.keep
  have inst : PySem.W.Looks (model prog w) s.heap (isInstance (.ref x) (.type "object")) true := I.type.andThen (PySem.W.looks_subIn X hin)
  have ent : wpAny (model prog w) A.in1 (Builtin.«object.__ne__» ⟨[.ref x, b], []⟩) (fun fin s' => ∃ v, fin = .done (.ret v) ∧ ∃ r : Bool, v = .bool r ∧ Q v s') E s := by
    unfold Builtin.«object.__ne__»
    refine wpAny_bind (m := slotArgs "__ne__" 1 _) (wpAny_pure ?_)
    refine wpAny_bind (wpAny_cRoomFor hu ?_)
    refine wpAny_bind (m := callSpecialIfBound? (.ref x) (Str.ofString "__eq__") [b]) (PySem.W.ifBound_K X I hs hf (wpAny_mono h (fun v s' hv => ?_) fun _ _ e => e))
    obtain ⟨r, rfl, hq⟩ := hv
    refine wpAny_bind (wpAny_truthy_bool ?_)
    exact wpAny_pure ⟨_, rfl, _, rfl, hq⟩
  have one : wpAny (model prog w) A (tryCompare (.ref x) "__ne__" b) (fun r s' => ∃ v, r = some v ∧ Q v s') E s := by
    unfold tryCompare
    simp only [callSpecialIfBound?, bindSpecialIfBound?]
    refine wpAny_bind (wpAny_holding (wpAny_bind (wpAny_bind (wpAny_bind (I.type.here ((PySem.W.looks_findIn X hne).here ?_))))))
    simp only [PySem.F.cmp_object.ne.bind]
    refine wpAny_bind (wpAny_askSetting (wpAny_ite ?_))
    have fin : wpAny (model prog w) A (call (.builtin "object.__ne__") ([.ref x] ++ [b]) >>= fun v => pure (some v)) (fun r s' => ∃ v, r = some v ∧ ∃ q : Bool, v = .bool q ∧ Q v s') E s := by
      refine wpAny_bind (wpAny_call (codeAny_call_builtin PySem.F.cmp_object.ne.plain PySem.F.cmpEntry_ne (@PySem.W.check_slot (model prog w) _ _ _ "object.__ne__" "object" "__ne__" (.ref x) [b] [] _ (by decide +kernel) (by decide +kernel) inst (PySem.F.cmpArgs_ne _ _) ?_)))
      refine wpAny_mono ent (fun fin s' hfin => ?_) fun _ _ e => e
      obtain ⟨v, rfl, r, rfl, hq⟩ := hfin
      exact wpAny_pure ⟨_, rfl, r, rfl, hq⟩
    have fin2 := wpAny_mono fin (Q' := fun a s' => wpAny (model prog w) A (match a with
              | some Value.notImplemented => pure none
              | none => pure none
              | some v => pure (some v)) (fun r s' => ∃ v, r = some v ∧ Q v s') E s') (fun a s' ha => by
      obtain ⟨v, rfl, r, rfl, hq⟩ := ha
      exact wpAny_pure ⟨_, rfl, hq⟩) fun _ _ e => e
    split
    · exact wpAny_bind (wpAny_pure (wpAny_pure fin2))
    · exact wpAny_tryCatch (wpAny_bind (wpAny_pure (wpAny_pure fin2)))
  unfold richCompare
  simp only [oneThing_ref]
  refine wpAny_holding (wpAny_bind (wpAny_cRoomFor (by omega) ?_))
  refine wpAny_bind (I.type.here (wpAny_bind (hb.here ?_)))
  split
  · rename_i q
    have e : PySem.W.subIn K tb (.ref C) = some false := by
      rcases Bool.or_eq_true_iff.mp hn with e | e
      · rw [beq_iff_eq.mp e] at q; simp at q
      · exact beq_iff_eq.mp e
    refine wpAny_bind ((PySem.W.looks_subIn X e).here ?_)
    simp only [Bool.false_eq_true, if_false]
    refine wpAny_bind (wpAny_mono one (fun r s' z => ?_) fun _ _ e => e)
    obtain ⟨v, rfl, hq⟩ := z
    exact wpAny_pure hq
  · refine wpAny_bind (wpAny_pure ?_)
    simp only [Bool.false_eq_true, if_false]
    refine wpAny_bind (wpAny_mono one (fun r s' z => ?_) fun _ _ e => e)
    obtain ⟨v, rfl, hq⟩ := z
    exact wpAny_pure hq
end
end Ap
namespace Ap
open PySem PySem.Spec PyProof.Rows L2
section
variable {X : Cx} {k : Nat} {f Cl : Addr} {fd : FuncData} {ps : List Str} {sp : Sp} {A : Around}
theorem takes_f : L2N.Takes X Wf := fun _ _ x => by
  obtain ⟨_, _, _, _, _, _, _, _, _, _, _, _, _, _, _, _, z⟩ := x
  exact z.elim
abbrev E0 : XK := fun _ _ _ => False
theorem run_fnA {pins : List (Addr × Obj)} {σ : St} {H : Hp} {s : Shared} {Q : VK} {us : List Value} {vs : List V} (FO : FnOk X.prog X.w X.K X.mg X.base (L2N.CX X.prog X.w) k f fd ps sp) (hr : Room k A) (hb : Binds X.K fd ps [])
    (e0 : Env0 X.prog X.w X.K X.mg X.base A X.stack s H) (I : Inv X pins σ H s) (r : Vals vs us) (h : sp vs H Q E0) : wpAny (model X.prog X.w) A (call (.ref f) us) (EP X pins σ Q) X.xe s := by
  have hl : us.length = ps.length := by rw [← r.length]; exact FO.len _ _ _ _ h
  have b := hb s us I.kIn (by rw [List.append_nil]; exact hl)
  rw [List.append_nil] at b
  refine wpAny_call (codeAny_mono (FO.run A X.stack s H ⟨us, []⟩ us vs Q E0 hr e0 b r h) fun r s' hq => ?_)
  cases r with
  | error e => exact L2N.passAt (W := Wf) takes_f σ pins H s e s' I hq
  | ok fl =>
    cases fl with
    | ret u => exact I.after hq
    | next => exact False.elim hq
    | brk => exact False.elim hq
    | cont => exact False.elim hq
/-- what an own def for a special name must be -/
structure Dn (X : Cx) (Cl : Addr) (name : Str) (f : Addr) (fd : FuncData) (ps : List Str) (k : Nat) (sp : Sp) : Prop where
  at_ : PySem.W.findIn X.K (.ref Cl) name = some (some (.ref f))
  fn : PySem.W.isFn X.K (.ref f) = true
  ok : FnOk X.prog X.w X.K X.mg X.base (L2N.CX X.prog X.w) k f fd ps sp
  bd : Binds X.K fd ps []
  room : Room (k + 3) X.A
def rLenR (Cl : Addr) (sp : Sp) : List V → Hp → VK → Prop := fun xs H Q => ∃ a dx fs, xs = [.ref a] ∧ H a = some (.ins Cl dx fs) ∧ sp [.ref a] H (fun v H' => ∃ n : Nat, v = .int n ∧ n < 1000000 ∧ Q v H') E0
theorem call_lenR (D : Dn X Cl "__len__" f fd ps k sp) : CallR X (.builtin "len") (rLenR Cl sp) := by
  intro pins s σ H xs us Q I r h
  obtain ⟨a, dx, fs, rfl, ha, q⟩ := h
  obtain ⟨u, rfl, ru⟩ := vals1 r
  obtain rfl : u = Value.ref a := ru
  obtain ⟨mA, J, _⟩ := ins_get I.hok ha
  obtain ⟨od, J, _⟩ := J.look
  have hr : Room k X.A.in1 := (show Room (k + 1) X.A from D.room.mono (by omega)).in1
  refine len_own I.kIn J D.at_ D.fn (wpAny_mono (run_fnA (vs := [.ref a]) D.ok hr D.bd I.env0.in1 I (.cons rfl .nil) q) (fun v s' z => ?_) fun _ _ e => e)
  obtain ⟨v', H', I', rv, n, rfl, hn, q'⟩ := z
  obtain ⟨t, rfl⟩ := (show ∃ t, v = Value.int n t from rv)
  exact ⟨n, t, rfl, hn, .int n, H', I'.tok _, ⟨_, rfl⟩, q'⟩
def rStrR (Cl : Addr) (sp : Sp) : List V → Hp → VK → Prop := fun xs H Q => ∃ a dx fs, xs = [.ref a] ∧ H a = some (.ins Cl dx fs) ∧ sp [.ref a] H (fun v H' => ∃ z, v = .str z ∧ Q v H') E0
theorem call_strR (D : Dn X Cl "__str__" f fd ps k sp) : CallR X (.type "str") (rStrR Cl sp) := by
  intro pins s σ H xs us Q I r h
  obtain ⟨a, dx, fs, rfl, ha, q⟩ := h
  obtain ⟨u, rfl, ru⟩ := vals1 r
  obtain rfl : u = Value.ref a := ru
  obtain ⟨mA, J, _⟩ := ins_get I.hok ha
  obtain ⟨od, J, _⟩ := J.look
  have hr : Room k X.A.in1.in1 := (show Room (k + 1) X.A.in1 from (show Room (k + 2) X.A from D.room.mono (by omega)).in1).in1
  have hu : X.A.units + 2 < cLine := by
    have := D.room.un
    omega
  refine str_own I.kIn J D.at_ D.fn hu (wpAny_mono (run_fnA (vs := [.ref a]) D.ok hr D.bd I.env0.in1.in1 I (.cons rfl .nil) q) (fun v s' z => ?_) fun _ _ e => e)
  obtain ⟨v', H', I', rv, m, rfl, q'⟩ := z
  obtain ⟨t, rfl⟩ := (show ∃ t, v = Value.str m t from rv)
  exact ⟨m, t, rfl, .str m, H', I', ⟨_, rfl⟩, q'⟩
/-- x == y, x an instance with its own == -/
def rEqR (K : PySem.W.Frag) (Cl : Addr) (sp : Sp) (neg : Bool) : R2 := fun x y H Q => ∃ a dx fs t, x = .ref a ∧ H a = some (.ins Cl dx fs) ∧ TyX K H y t ∧ PySem.W.notFirst K Cl t = true ∧ sp [x, y] H (fun v H' => ∃ b, v = .bl b ∧ Q (.bl (b != neg)) H') E0
theorem op_eqR (D : Dn X Cl "__eq__" f fd ps k sp) : OpR X (compareOp .Eq) (rEqR X.K Cl sp false) := by
  intro pins s σ H x y v u Q I rx ry h
  obtain ⟨a, dx, fs, t, rfl, ha, ty, hn, q⟩ := h
  obtain rfl : v = Value.ref a := rx
  obtain ⟨mA, J, _⟩ := ins_get I.hok ha
  obtain ⟨od, J, _⟩ := J.look
  obtain ⟨m, hF⟩ := I.fr
  obtain ⟨P, Z, p, _⟩ := kit_of I ry ty
  have hr : Room k X.A := D.room.mono (by omega)
  show wpAny _ _ (richCompare .Eq (.ref a) u) _ _ s
  refine PySem.W.cmp_K (op := .Eq) (tb := t) hr.units0 hF I.ok.mod.kin J (Z.ty _ _ I.kIn p) hn D.at_ D.fn (wpAny_mono (run_fnA (vs := [.ref a, y]) D.ok hr D.bd I.env0 I (.cons rfl (.cons ry .nil)) q) (fun v s' z => ?_) fun _ _ e => e)
  obtain ⟨v', H', I', rv, b, rfl, q'⟩ := z
  obtain rfl : v = Value.bool b := rv
  rw [Bool.bne_false] at q'
  exact ⟨.bl b, H', I', rfl, q'⟩
theorem op_neR (D : Dn X Cl "__eq__" f fd ps k sp) (hne : PySem.W.findIn X.K (.ref Cl) "__ne__" = some (some (.builtin "object.__ne__"))) (hin : PySem.W.subIn X.K (.ref Cl) (.type "object") = some true) : OpR X (compareOp .NotEq) (rEqR X.K Cl sp true) := by
  intro pins s σ H x y v u Q I rx ry h
  obtain ⟨a, dx, fs, t, rfl, ha, ty, hn, q⟩ := h
  obtain rfl : v = Value.ref a := rx
  obtain ⟨mA, J, _⟩ := ins_get I.hok ha
  obtain ⟨od, J, _⟩ := J.look
  obtain ⟨m, hF⟩ := I.fr
  obtain ⟨P, Z, p, _⟩ := kit_of I ry ty
  have hr : Room k X.A.in1 := (show Room (k + 1) X.A from D.room.mono (by omega)).in1
  have hu : X.A.units + 1 < cLine := by
    have := D.room.un
    omega
  show wpAny _ _ (richCompare .NotEq (.ref a) u) _ _ s
  refine ne_own (tb := t) hu hF I.ok.mod.kin J (Z.ty _ _ I.kIn p) hn hne hin D.at_ D.fn (wpAny_mono (run_fnA (vs := [.ref a, y]) D.ok hr D.bd I.env0.in1 I (.cons rfl (.cons ry .nil)) q) (fun v s' z => ?_) fun _ _ e => e)
  obtain ⟨v', H', I', rv, b, rfl, q'⟩ := z
  obtain rfl : v = Value.bool b := rv
  rw [Bool.bne_true] at q'
  exact ⟨b, rfl, .bl (!b), H', I', rfl, q'⟩
end
end Ap

end
section
/-! Routers: len, str, ==, isinstance. -/
namespace Ap
open PySem PySem.Spec PyProof.Rows L2
section
variable {G : Gx} {C : Fx} {W : WX} {F : Nat → FnS} {r r1 r2 : Env} {σ : St} {H H1 : Hp} {Q : VK}
theorem post_len {z : R Vl} (q : PostE C W r σ H Q (asLen z)) : PostE C Wf r σ H (fun v H' => ∃ n : Nat, v = .int n ∧ n < 1000000 ∧ Q v H') z := by
  unfold asLen at q
  split at q
  · rename_i n r'
    split at q
    · rename_i hn
      intro v H' e g ok
      have rp : Rp (fz C r' σ H') (.int n) v := ok
      cases rp
      refine ⟨n.toNat, by rw [Int.toNat_of_nonneg hn.1], by omega, q _ H' e g ok⟩
    · exact q.elim
  · exact q.elim
theorem post_txt {z : R Vl} (q : PostE C W r σ H Q (asTxt z)) : PostE C Wf r σ H (fun v H' => ∃ x, v = .str x ∧ Q v H') z := by
  unfold asTxt at q
  split at q
  · rename_i n r'
    intro v H' e g ok
    have rp : Rp (fz C r' σ H') (.str n) v := ok
    cases rp
    exact ⟨n, rfl, q _ H' e g ok⟩
  · exact q.elim
theorem post_truth {z : R Vl} {neg : Bool} (q : PostE C W r σ H Q (asTruth neg z)) : PostE C Wf r σ H (fun v H' => ∃ b, v = .bl b ∧ Q (.bl (b != neg)) H') z := by
  unfold asTruth at q
  split at q
  · rename_i n r'
    intro v H' e g ok
    have rp : Rp (fz C r' σ H') (.bool n) v := ok
    cases rp
    exact ⟨n, rfl, q _ H' e g (.bl _)⟩
  · exact q.elim
theorem rd_rlen {k i : Nat} (q : tEv G F W (.rlen k i) σ H Q) : tCB (rLenR (G.fa 900) (spOf G.K G.fa G.ca (F k))) (tCons (tVar i) tNil) σ H Q := by
  obtain ⟨C, rfl, r, e, q⟩ := q
  rw [ev] at q
  split at q
  · rename_i hi
    obtain ⟨g, l, ro, st, kp, hm⟩ := isRt_ok hi
    obtain ⟨a, dx, b, v1, v2, v3, v4, vs, h1, _, _, h2, _⟩ := e.rt hm
    exact ⟨_, h1, a, dx, _, rfl, h2, call_rd e (Paired.cons (a := Vl.own i) (show VlOk C r σ H (.own i) (.ref a) from h1) .nil) (post_len q)⟩
  · exact q.elim
theorem rd_rstr {k i : Nat} (q : tEv G F W (.rstr k i) σ H Q) : tCB (rStrR (G.fa 900) (spOf G.K G.fa G.ca (F k))) (tCons (tVar i) tNil) σ H Q := by
  obtain ⟨C, rfl, r, e, q⟩ := q
  rw [ev] at q
  split at q
  · rename_i hi
    obtain ⟨g, l, ro, st, kp, hm⟩ := isRt_ok hi
    obtain ⟨a, dx, b, v1, v2, v3, v4, vs, h1, _, _, h2, _⟩ := e.rt hm
    exact ⟨_, h1, a, dx, _, rfl, h2, call_rd e (Paired.cons (a := Vl.own i) (show VlOk C r σ H (.own i) (.ref a) from h1) .nil) (post_txt q)⟩
  · exact q.elim
theorem RtK.ty {K : PySem.W.Frag} {Cl a dx : Addr} {fs : List (Str × V)} (k : RtK K Cl) (h : H a = some (.ins Cl dx fs)) : TyX K H (.ref a) (.ref Cl) := .base (.ins h k.cls k.c1 k.c2 k.c3 k.c4)
theorem RtK.nf {K : PySem.W.Frag} {Cl : Addr} (k : RtK K Cl) {t : String} (h : t ∈ rtTys) : PySem.W.notFirst K Cl (.type t) = true := by
  unfold PySem.W.notFirst
  rw [(k.no t h).2]
  simp
theorem nf_self {K : PySem.W.Frag} {Cl : Addr} : PySem.W.notFirst K Cl (.ref Cl) = true := by simp [PySem.W.notFirst]
theorem rd_req {k i j : Nat} {neg : Bool} (hK : RtK G.K (G.fa 900)) (q : tEv G F W (.req k i j neg) σ H Q) : tOp (rEqR G.K (G.fa 900) (spOf G.K G.fa G.ca (F k)) neg) (tVar i) (tVar j) σ H Q := by
  obtain ⟨C, rfl, r, e, q⟩ := q
  rw [ev] at q
  split at q
  · rename_i hi
    rw [Bool.and_eq_true] at hi
    obtain ⟨g, l, ro, st, kp, hm⟩ := isRt_ok hi.1
    obtain ⟨g', l', ro', st', kp', hm'⟩ := isRt_ok hi.2
    obtain ⟨a, dx, b, v1, v2, v3, v4, vs, h1, _, _, h2, _⟩ := e.rt hm
    obtain ⟨a', dx', b', v1', v2', v3', v4', vs', h1', _, _, h2', _⟩ := e.rt hm'
    exact ⟨_, h1, _, h1', a, dx, _, .ref (C.fa 900), rfl, h2, hK.ty h2', nf_self, call_rd e (Paired.cons (a := Vl.own i) (show VlOk C r σ H (.own i) (.ref a) from h1) (Paired.cons (a := Vl.own j) (show VlOk C r σ H (.own j) (.ref a') from h1') .nil)) (post_truth q)⟩
  · exact q.elim
theorem ty_mem (d : D) (h : d.plain = true) : tyStr d ∈ rtTys := by
  cases d <;> first | (cases h; done) | (unfold tyStr rtTys; simp)
theorem rd_reqD {k i : Nat} {x : Ex} (hK : RtK G.K (G.fa 900)) (q : tEv G F W (.reqD k i x) σ H Q) : tOp (rEqR G.K (G.fa 900) (spOf G.K G.fa G.ca (F k)) false) (tVar i) (tEv G F W x) σ H Q := by
  obtain ⟨C, rfl, r, e, q⟩ := q
  rw [ev] at q
  split at q
  · rename_i hi
    obtain ⟨g, l, ro, st, kp, hm⟩ := isRt_ok hi
    obtain ⟨a, dx, b, v1, v2, v3, v4, vs, h1, _, _, h2, _⟩ := e.rt hm
    refine ⟨_, h1, C, rfl, r, e, ?_⟩
    cases h3 : ev F x r with
    | bad => rw [h3] at q; exact q.elim
    | exc c r1 => rw [h3] at q; exact q
    | ok v r1 =>
      rw [h3, R.bind_ok] at q
      intro y H1 e1 g1 ok
      cases v with
      | dat d =>
        rw [asDat, R.bind_ok] at q
        split at q
        · rename_i hi'
          obtain ⟨g', l', ro', st', kp', hm'⟩ := isRt_ok hi'
          obtain ⟨a', dx', b', v1', v2', v3', v4', vs', h1', _, _, h2', _⟩ := e1.rt hm'
          rw [h1] at h1'
          cases h1'
          have ok : Rp (fz C r1 σ H1) d y := ok
          have ty := Od.ty (.inl ok : Od C r1 σ H1 d y)
          exact ⟨a, dx', _, .type (tyStr d), rfl, h2', ty, hK.nf (ty_mem d ok.plain), call_rd e1 (Paired.cons (a := Vl.own i) (show VlOk C r1 σ H1 (.own i) (.ref a) from h1) (Paired.cons (a := Vl.dat d) (show VlOk C r1 σ H1 (.dat d) y from ok) .nil)) (post_truth (PostE.after q g1))⟩
        · exact q.elim
      | _ => exact q.elim
  · exact q.elim
theorem rd_isR {i : Nat} (hK : RtK G.K (G.fa 900)) (q : tEv G F W (.isR i) σ H Q) : tCB (rIsi G.K) (tCons (tVar i) (tCons (tC (.ref (G.fa 900))) tNil)) σ H Q := by
  obtain ⟨C, rfl, r, e, q⟩ := q
  rw [ev] at q
  have rout : ∀ g l ro st kp, moOf r[i]? = some (.rt g l ro st kp) → PostE C W r σ H Q (.ok (.dat (.bool true)) r) → tCB (rIsi C.K) (tCons (tVar i) (tCons (tC (.ref (C.fa 900))) tNil)) σ H Q := fun g l ro st kp hm q => by
    obtain ⟨a, dx, b, v1, v2, v3, v4, vs, h1, _, _, h2, _⟩ := e.rt hm
    exact ⟨_, h1, .ref a, _, .ref (C.fa 900), .ref (C.fa 900), true, rfl, .own _, hK.ty h2, hK.self, q _ H e (Same.refl _) (.bl _)⟩
  unfold isRO at q
  split at q
  · rename_i g l ro st kp hi
    exact rout g l ro st kp (by rw [hi]; rfl) q
  · rename_i g l ro st kp hi
    exact rout g l ro st kp (by rw [hi]; rfl) q
  · rename_i d hi
    obtain ⟨v, h1, rp⟩ := e.slot i _ hi
    have rp : Rp (fz C r σ H) d v := rp
    have ty := Od.ty (.inl rp : Od C r σ H d v)
    exact ⟨_, h1, v, _, .type (tyStr d), .ref (C.fa 900), false, rfl, .own _, ty, (hK.no _ (ty_mem d rp.plain)).1, q _ H e (Same.refl _) (.bl _)⟩
  · exact q.elim
/-! text.index(sign) -/
def rTidx : V → List V → Hp → VK → Prop := fun x xs H Q => ∃ (a b : Str) (k : Nat) (rest : List Nat), x = .str a ∧ xs = [.str b] ∧ PySem.Builtin.Str.occurrences a b 0 a.length 1 = k :: rest ∧ Q (.int (k : Nat)) H
theorem mt_tidx {X : Cx} : MtR X "str.index" rTidx := by
  intro pins s σ H x xs v us Q I rx rs h
  obtain ⟨a, b, k, rest, rfl, rfl, q, w⟩ := h
  obtain ⟨t, rfl⟩ := rx
  cases rs with
  | cons r1 rs =>
    cases rs
    obtain ⟨u, rfl⟩ := r1
    exact PySem.SC.index q ⟨.int (k : Nat), H, I.tok _, ⟨_, rfl⟩, w⟩
theorem rd_tidx {z t : Str} {b : Ex} (q : tEv G F W (.prim .tidx [.glb z (.str t), b]) σ H Q) : tBM G.K "str" rTidx (tC (.str t)) (tCons (tEv G F W b) tNil) σ H Q := by
  obtain ⟨C, rfl, r, e, q⟩ := q
  rw [ev_prim, evs_cons, ev] at q
  refine ⟨rfl, C, rfl, r, e, ?_⟩
  rw [R.bind_ok, evs_cons] at q
  cases h2 : ev F b r with
  | bad => rw [h2] at q; exact q.elim
  | exc c r2 => rw [h2] at q; exact q
  | ok vb r2 =>
    rw [h2, R.bind_ok, evs_nil, R.bind_ok, R.bind_ok, R.bind_ok] at q
    intro w H2 e2 g2 v2
    obtain ⟨ds, d, h3, h4, h5⟩ := (PostE.after q g2).prim e2 (.cons (show VlOk C r2 σ H2 (.dat (.str t)) (.str t) from .str t) (.cons v2 .nil))
    match ds, h3, h4 with
    | [.str a, .str b'], .cons i (.cons i2 .nil), h4 =>
      have i := i.str
      cases i
      have i2 := i2.str
      cases i2
      have h4 : ((PySem.Builtin.Str.occurrences t b' 0 t.length 1).head?.map fun j => PyData.int (j : Nat)) = some d := h4
      cases ho : PySem.Builtin.Str.occurrences t b' 0 t.length 1 with
      | nil => rw [ho] at h4; cases h4
      | cons k rest =>
        rw [ho] at h4
        cases h4
        exact ⟨t, b', k, rest, rfl, rfl, ho, h5.at (.int _)⟩
end
end Ap

end
section
/-! The checker is sound: the induction. -/
namespace Ap
open PySem PySem.Spec PyProof.Rows L2

section
variable {X : Cx} {K : Ck} {G : Gx} {F : Nat → FnS} {sc sc0 : Scope} {W : WX}
theorem Good.block (g : Good X K G F sc sc0 W) {scope : Scope} {s : Shared} {H : Hp} {C : Addr} {cl : List (Str × Addr)} {fp : List Addr} : Good (X.blk s H scope (compEnvC scope cl C X.env) fp) K G F (relS scope sc) scope Wf where
  n := g.n
  nd := g.nd
  sc := by
    show relS scope X.env.scope = _
    rw [g.sc]
  calm := g.calm
  k := g.k
  takes := fun _ _ x => by
    obtain ⟨_, _, _, _, _, _, _, _, _, _, _, _, _, _, _, _, z⟩ := x
    exact z.elim
  hu := g.hu
  blt := g.blt
  gi := g.gi
  gs := g.gs
  fns := g.fns
  mks := g.mks
  rt := g.rt
  ms := g.ms
  ini := g.ini
  tgt := fun x h => by
    show L2.Loc (relS scope X.env.scope) x ∧ ((scope.names.lookup x == some NameKind.cell) = true ∨ (relS scope X.env.scope).names.lookup x = some .local)
    unfold locB at h
    split at h
    · rename_i h1
      have := lookup_relS_keep (sc := X.env.scope) (by decide) h1
      exact ⟨.inl this, .inr this⟩
    · rename_i h1
      have := lookup_relS_keep (sc := X.env.scope) (by decide) h1
      exact ⟨.inr this, .inl (by rw [h1]; rfl)⟩
    · cases h
theorem pt_of {e : Expr} {x : Ex} (h : PE X e (tEv G F W x)) (he : ∀ whole, isTrue e X.env whole = (do let v ← whole; standAt e.pos; holding [v] (truthy v)) := by intro _; rfl) : PT X e (tEvT G F W x) :=
  PT.imp (pt_val h he) fun σ H Q q => q.val
theorem pw_pt {op : BoolOp} {vs : List Expr} {p : Pos} {t : TT} (h : PT X (.BoolOp op vs p) t) : PW X (.BoolOp op vs p) t := ⟨fun whole pins s σ H Q I q => h.run pins s σ H Q I q⟩
theorem both {e : Expr} {x : Ex} (h : PE X e (tEv G F W x)) (he : ∀ whole, isTrue e X.env whole = (do let v ← whole; standAt e.pos; holding [v] (truthy v)) := by intro _; rfl) : PE X e (tEv G F W x) ∧ (notIf e = true → PT X e (tEvT G F W x)) := ⟨h, fun _ => pt_of h he⟩
/-- what the induction says of a fuel -/
structure Snd (K : Ck) (G : Gx) (F : Nat → FnS) (n : Nat) : Prop where
  e : ∀ {X : Cx} {sc sc0 : Scope} {W : WX} {e : Expr} {x : Ex}, Good X K G F sc sc0 W → chkE K n sc e x = true → PE X e (tEv G F W x) ∧ (notIf e = true → PT X e (tEvT G F W x))
  a : ∀ {X : Cx} {sc sc0 : Scope} {W : WX} {es : List Expr} {xs : List Ex}, Good X K G F sc sc0 W → chkA K n sc es xs = true → PA X es (tEvs G F W xs) ∧ es.all noStar = true
  c : ∀ {X : Cx} {sc sc0 : Scope} {es : List Expr} {xs : List Ex}, Good X K G F sc sc0 Wf → chkC K n sc es xs = true → PTs X es (tCond G F xs)
  i : ∀ {X : Cx} {sc sc0 : Scope} {W : WX} {tg e : Expr} {x : Ap.It}, Good X K G F sc sc0 W → chkI K n sc tg e x = true → PI X tg e (tIt G F W x)
theorem rd_sl0 {a : Ex} {σ : St} {H : Hp} {Q : VK} (q : tEv G F W (.prim (.slc false false) [a]) σ H Q) : tSl (tSlR G.K) (tEv G F W a) tNoPart tNoPart σ H Q := by
  obtain ⟨C, rfl, r, e, q⟩ := q
  rw [ev_prim, evs_cons] at q
  refine ⟨C, rfl, r, e, ?_⟩
  cases h1 : ev F a r with
  | bad => rw [h1] at q; exact q.elim
  | exc c r1 => rw [h1] at q; exact q
  | ok va r1 =>
    rw [h1, R.bind_ok, evs_nil, R.bind_ok, R.bind_ok] at q
    intro v H1 e1 g1 v1
    obtain ⟨ds, d, h3, h4, h5⟩ := (PostE.after q g1).prim e1 (.cons v1 .nil)
    match ds, h3, h4 with
    | [a], .cons i .nil, h4 => exact p_slc e1 i h4 h5
theorem rd_slL {a b : Ex} {σ : St} {H : Hp} {Q : VK} (q : tEv G F W (.prim (.slc true false) [a, b]) σ H Q) : tSl (tSlR G.K) (tEv G F W a) (tPart (tEv G F W b)) tNoPart σ H Q := by
  obtain ⟨C, rfl, r, e, q⟩ := q
  rw [ev_prim, evs_cons] at q
  refine ⟨C, rfl, r, e, ?_⟩
  cases h1 : ev F a r with
  | bad => rw [h1] at q; exact q.elim
  | exc c r1 => rw [h1] at q; exact q
  | ok va r1 =>
    rw [h1, R.bind_ok, evs_cons] at q
    intro v H1 e1 g1 v1
    refine ⟨C, rfl, r1, e1, ?_⟩
    cases h2 : ev F b r1 with
    | bad => rw [h2] at q; exact q.elim
    | exc c r2 => rw [h2] at q; exact q
    | ok vb r2 =>
      rw [h2, R.bind_ok, evs_nil, R.bind_ok, R.bind_ok, R.bind_ok] at q
      intro w H2 e2 g2 v2
      obtain ⟨ds, d, h3, h4, h5⟩ := (PostE.after q (g1.trans g2)).prim e2 (.cons (v1.grow g2) (.cons v2 .nil))
      match ds, h3, h4 with
      | [p, .int j], .cons i (.cons i2 .nil), h4 => exact ⟨j, i2.int, p_slc e2 i h4 h5⟩
theorem rd_slH {a b : Ex} {σ : St} {H : Hp} {Q : VK} (q : tEv G F W (.prim (.slc false true) [a, b]) σ H Q) : tSl (tSlR G.K) (tEv G F W a) tNoPart (tPart (tEv G F W b)) σ H Q := by
  obtain ⟨C, rfl, r, e, q⟩ := q
  rw [ev_prim, evs_cons] at q
  refine ⟨C, rfl, r, e, ?_⟩
  cases h1 : ev F a r with
  | bad => rw [h1] at q; exact q.elim
  | exc c r1 => rw [h1] at q; exact q
  | ok va r1 =>
    rw [h1, R.bind_ok, evs_cons] at q
    intro v H1 e1 g1 v1
    refine ⟨C, rfl, r1, e1, ?_⟩
    cases h2 : ev F b r1 with
    | bad => rw [h2] at q; exact q.elim
    | exc c r2 => rw [h2] at q; exact q
    | ok vb r2 =>
      rw [h2, R.bind_ok, evs_nil, R.bind_ok, R.bind_ok, R.bind_ok] at q
      intro w H2 e2 g2 v2
      obtain ⟨ds, d, h3, h4, h5⟩ := (PostE.after q (g1.trans g2)).prim e2 (.cons (v1.grow g2) (.cons v2 .nil))
      match ds, h3, h4 with
      | [p, .int j], .cons i (.cons i2 .nil), h4 => exact ⟨j, i2.int, p_slc e2 i h4 h5⟩
theorem slotB_pe (g : Good X K G F sc sc0 W) {i : Nat} {x : Str} {p : Pos} (h : slotB K sc i x = true) : PE X (.Name x p) (tVar i) := by
  unfold slotB at h
  simp only [Bool.and_eq_true, decide_eq_true_eq] at h
  obtain ⟨⟨h1, h2⟩, h3⟩ := h
  obtain ⟨o1, o2, o3⟩ := okName_ok h3
  exact pe_var (i := i) (by rw [g.n]; exact h1) (by rw [g.sc]; exact visB_ok h2) o1 o2
theorem star_all {pos : Pos} : ∀ {es : List Expr}, es.all noStar = true → (backTo pos (starEach es X.env)).all (fun x => !x.1) = true
  | [], _ => rfl
  | e :: es, h => by
    simp only [List.all_cons, Bool.and_eq_true] at h
    rw [star_cons h.1]
    have := star_all (pos := pos) (es := es) h.2
    show (!false && (backTo pos (starEach es X.env)).all (fun x => !x.1)) = true
    rw [this]
    rfl
theorem form_ok {pos : Pos} {es : List Expr} (h : es.all noStar = true) (hl : es.length < 20) : methodCallForm (es.length + ([] : List Keyword).length) (backTo pos (starEach es X.env)) (backToKw pos (keywordEach [] X.env)) = true := by
  have h1 := star_all (X := X) (pos := pos) h
  have e : methodCallForm (es.length + ([] : List Keyword).length) (backTo pos (starEach es X.env)) (backToKw pos (keywordEach [] X.env)) = ((backTo pos (starEach es X.env)).all (fun x => !x.1) && (backToKw pos (keywordEach [] X.env)).all (fun x => x.1.isSome) && decide (es.length + ([] : List Keyword).length + (if ([] : List Keyword).isEmpty then 0 else 1) < 30)) := rfl
  rw [e, h1]
  show (true && true && decide _) = true
  simp
  omega
theorem form_few {pos : Pos} {e : Expr} (h : noStar e = true) : ((backTo pos (starEach [e] X.env)).all (fun x => !x.1) && (backToKw pos (keywordEach [] X.env)).all (fun x => x.1.isSome) && decide (([e] : List Expr).length + ([] : List Keyword).length + (if ([] : List Keyword).isEmpty then 0 else 1) < 30)) = true := by
  rw [star_all (X := X) (pos := pos) (es := [e]) (by simp [h])]
  rfl
theorem chkA_nil {n : Nat} {xs : List Ex} (h : chkA K n sc [] xs = true) : xs = [] := by
  cases n with
  | zero => simp [chkA] at h
  | succ n =>
    cases xs with
    | nil => rfl
    | cons x xs => simp [chkA] at h
theorem tMeth_nil {Cl : Addr} {m : Str} {sp : Sp} {E : St → XK} {i : Nat} {σ : St} {H : Hp} {Q : VK} (q : tMethS Cl m sp E (tVar i) (tEvs G F W []) σ H Q) : tMethS Cl m sp E (tVar i) tNil σ H Q := by
  obtain ⟨v, h1, a, dx, fs, h2, h3, h4, C, hC, r, e, q⟩ := q
  rw [evs_nil] at q
  exact ⟨v, h1, a, dx, fs, h2, h3, h4, q [] H e (Same.refl _) .nil⟩
theorem sound (K : Ck) (G : Gx) (F : Nat → FnS) (n : Nat) : Snd K G F n := by
  induction n with
  | zero => exact ⟨fun _ h => by simp [chkE] at h, fun _ h => by simp [chkA] at h, fun _ h => by simp [chkC] at h, fun _ h => by simp [chkI] at h⟩
  | succ n ih =>
    refine ⟨fun {X sc sc0 W e x} g h => ?_, fun {X sc sc0 W es xs} g h => ?_, fun {X sc sc0 es xs} g h => ?_, fun {X sc sc0 W tg e x} g h => ?_⟩
    · cases x with
      | var i =>
        simp only [chkE] at h
        split at h
        · simp only [Bool.and_eq_true, decide_eq_true_eq] at h
          obtain ⟨o1, o2, o3⟩ := okName_ok h.2
          exact both (PE.imp (pe_var (i := i) (by rw [g.n]; exact h.1.1) (by rw [g.sc]; exact visB_ok h.1.2) o1 o2) fun σ H Q q => rd_var (G := G) (F := F) (W := W) q)
        · cases h
      | lit d =>
        simp only [chkE] at h
        split at h
        · obtain rfl := of_decide_eq_true h
          exact both (PE.imp pe_int fun σ H Q q => rd_lit (G := G) (F := F) (W := W) (fun _ => .int _) q)
        · obtain rfl := of_decide_eq_true h
          exact both (PE.imp pe_bl fun σ H Q q => rd_lit (G := G) (F := F) (W := W) (fun _ => .bl _) q)
        · obtain rfl := of_decide_eq_true h
          exact both (PE.imp pe_str fun σ H Q q => rd_lit (G := G) (F := F) (W := W) (fun _ => .str _) q)
        · exact both (PE.imp pe_non fun σ H Q q => rd_lit (G := G) (F := F) (W := W) (fun _ => .non) q)
        · cases h
      | glb y d =>
        simp only [chkE] at h
        split at h
        · simp only [Bool.and_eq_true, decide_eq_true_eq] at h
          obtain ⟨o1, o2, o3⟩ := okName_ok h.1.2
          obtain ⟨t, ht⟩ := g.gi _ h.2
          exact both (PE.imp (pe_glob (v := .int _) (glB_ok g h.1.1.2) ht ⟨t, rfl⟩ o1) fun σ H Q q => rd_glb (G := G) (F := F) (W := W) (fun _ => .int _) q)
        · simp only [Bool.and_eq_true, decide_eq_true_eq] at h
          obtain ⟨o1, o2, o3⟩ := okName_ok h.1.2
          obtain ⟨t, ht⟩ := g.gs _ h.2
          exact both (PE.imp (pe_glob (v := .str _) (glB_ok g h.1.1.2) ht ⟨t, rfl⟩ o1) fun σ H Q q => rd_glb (G := G) (F := F) (W := W) (fun _ => .str _) q)
        · cases h
      | tup xs =>
        simp only [chkE] at h
        split at h
        · exact both (PE.imp (pe_tupL (ih.a g h).1) fun σ H Q q => rd_tup (G := G) (F := F) (W := W) q)
        · cases h
      | lst xs =>
        simp only [chkE] at h
        split at h
        · exact both (PE.imp (pe_lst (ih.a g h).1) fun σ H Q q => rd_lst (G := G) (F := F) (W := W) q)
        · cases h
      | notE x =>
        simp only [chkE] at h
        split at h
        · simp only [Bool.and_eq_true] at h
          obtain ⟨h1, h2⟩ := ih.e g h.1
          exact ⟨PE.imp (pe_not h1) fun σ H Q q => rd_not q, fun _ => PT.imp (pt_not (h2 h.2)) fun σ H Q q => rd_notT q⟩
        · cases h
      | ite x y z =>
        simp only [chkE] at h
        split at h
        · simp only [Bool.and_eq_true] at h
          obtain ⟨h1, h2⟩ := ih.e g h.1.1.1
          exact ⟨PE.imp (pe_ifExp (h2 h.1.1.2) (ih.e g h.1.2).1 (ih.e g h.2).1) fun σ H Q q => rd_ite q, fun z => by cases z⟩
        · cases h
      | andE x y =>
        simp only [chkE] at h
        split at h
        · simp only [Bool.and_eq_true] at h
          obtain ⟨a1, a2⟩ := ih.e g h.1.1.1
          obtain ⟨b1, b2⟩ := ih.e g h.1.2
          exact ⟨PE.imp (pe_and a1 (pe_one b1)) fun σ H Q q => rd_and q, fun _ => PT.imp (PW.pt (pw_and (a2 h.1.1.2) (pw_and1 (b2 h.2)))) fun σ H Q q => rd_andT q⟩
        · simp only [Bool.and_eq_true] at h
          obtain ⟨a1, a2⟩ := ih.e g h.1.1
          obtain ⟨b1, b2⟩ := ih.e g h.2
          refine ⟨PE.imp (pe_and a1 b1) fun σ H Q q => rd_and q, fun _ => ?_⟩
          exact PT.imp (PW.pt (pw_and (a2 h.1.2) (pw_pt (b2 rfl)))) fun σ H Q q => rd_andT q
        · cases h
      | orE x y =>
        simp only [chkE] at h
        split at h
        · simp only [Bool.and_eq_true] at h
          obtain ⟨a1, a2⟩ := ih.e g h.1.1.1
          obtain ⟨b1, b2⟩ := ih.e g h.1.2
          exact ⟨PE.imp (pe_or a1 (pe_one b1)) fun σ H Q q => rd_or q, fun _ => PT.imp (PW.pt (pw_or (a2 h.1.1.2) (pw_or1 (b2 h.2)))) fun σ H Q q => rd_orT q⟩
        · simp only [Bool.and_eq_true] at h
          obtain ⟨a1, a2⟩ := ih.e g h.1.1
          obtain ⟨b1, b2⟩ := ih.e g h.2
          refine ⟨PE.imp (pe_or a1 b1) fun σ H Q q => rd_or q, fun _ => ?_⟩
          exact PT.imp (PW.pt (pw_or (a2 h.1.2) (pw_pt (b2 rfl)))) fun σ H Q q => rd_orT q
        · cases h
      | chain o p x y z =>
        simp only [chkE] at h
        split at h
        · simp only [Bool.and_eq_true, Bool.not_eq_true'] at h
          obtain ⟨⟨⟨⟨⟨h1, h2⟩, h3⟩, h4⟩, h5⟩, h6⟩ := h
          obtain ⟨t1, r1, p1⟩ := cmp_rule (G := G) g.k g.hu h1
          obtain ⟨t2, r2, p2⟩ := cmp_rule (G := G) g.k g.hu h2
          have a := (ih.e g h4).1
          have b := (ih.e g h5).1
          have c := (ih.e g h6).1
          exact ⟨PE.imp (pe_chain r1 r2 a b c h3) fun σ H Q q => rd_chain p1 p2 q, fun _ => PT.imp (pt_chain r1 r2 a b c h3) fun σ H Q q => rd_chain p1 p2 q.val⟩
        · cases h
      | call k xs =>
        simp only [chkE] at h
        split at h
        · simp only [Bool.and_eq_true, decide_eq_true_eq] at h
          obtain ⟨⟨⟨⟨h1, h2⟩, h3⟩, h4⟩, h5⟩ := h
          obtain ⟨o1, o2, o3⟩ := okName_ok h3
          obtain ⟨fd, ps, lvl, m1, m2, m3, m4, m5⟩ := g.fns _ h1
          obtain ⟨pa, _⟩ := ih.a g h5
          have hs := h4
          simp only [List.all_cons, Bool.and_eq_true] at hs
          exact both (PE.imp (pe_callS (E := WE W) m4 m5 (glB_ok g h2) m1 m2 m3 (fun σ => L2N.passAt g.takes σ) pa o1 (star_cons hs.1) (star_back hs.2)) fun σ H Q q => rd_fn (G := G) (F := F) (W := W) q)
        · cases h
      | fld i f =>
        simp only [chkE] at h
        split at h
        · simp only [Bool.and_eq_true, decide_eq_true_eq] at h
          obtain ⟨⟨h1, rfl⟩, h3⟩ := h
          exact both (PE.imp (pe_fld (X := X) (slotB_pe g h3) rfl) fun σ H Q q => by
            rw [g.k]
            exact rd_fld (F := F) (W := W) (by rw [← g.k]; exact (g.rt h1).1) q)
        · cases h
      | flen i =>
        simp only [chkE] at h
        split at h
        · simp only [Bool.and_eq_true, decide_eq_true_eq] at h
          obtain ⟨⟨⟨⟨h1, rfl⟩, h2⟩, rfl⟩, h3⟩ := h
          exact both (PE.imp (pe_callB (X := X) call_len (glB_ok g h2) (g.blt _ (by decide)) boot_len (pa_cons (pe_fld (slotB_pe g h3) rfl) pa_nil rfl) (by decide) (by decide) rfl rfl) fun σ H Q q => by
            rw [g.k]
            exact rd_flen (F := F) (W := W) (by rw [← g.k]; exact (g.rt h1).1) q)
        · cases h
      | fpop i =>
        simp only [chkE] at h
        split at h
        · simp only [Bool.and_eq_true, decide_eq_true_eq] at h
          obtain ⟨⟨⟨⟨h1, rfl⟩, rfl⟩, h3⟩, h5⟩ := h
          exact both (PE.imp (pe_bm0 (X := X) PySem.F.plainAttrs_list PySem.F.slot_list_pop PySem.F.type_list_pop mt_pop (pe_fld (slotB_pe g h3) rfl) rfl h5) fun σ H Q q => by
            rw [g.k]
            exact rd_fpop (F := F) (W := W) (by rw [← g.k]; exact (g.rt h1).1) q)
        · cases h
      | meth k i xs =>
        simp only [chkE] at h
        split at h
        · rename_i x px m apos as pos
          simp only [Bool.and_eq_true, decide_eq_true_eq] at h
          obtain ⟨⟨⟨⟨⟨⟨⟨h1, h2⟩, h3⟩, h4⟩, h5⟩, h6⟩, h7⟩, h8⟩ := h
          obtain ⟨f, fd, ps, lvl, m1, m2, m3, m4⟩ := g.ms _ h2
          have m4 := m4.mono (show lvl ≤ lvl + 3 by omega)
          have c := (g.rt h1).1.cls
          obtain ⟨pa, _⟩ := ih.a g h6
          cases as with
          | nil =>
            have hx : xs = [] := chkA_nil h6
            subst hx
            exact both (PE.imp (pe_mth0 (E := WE W) (slotB_pe g h4) c m1 m3 m4 m2 (fun σ => L2N.passAt g.takes σ) rfl h7) fun σ H Q q => tMeth_nil (rd_meth (G := G) (F := F) (W := W) h3 q))
          | cons a as =>
            have hs := h5
            simp only [List.all_cons, Bool.and_eq_true] at hs
            exact both (PE.imp (pe_mth (E := WE W) (slotB_pe g h4) c m1 m3 m4 m2 (fun σ => L2N.passAt g.takes σ) pa rfl (form_ok h5 h8) h7 (star_cons hs.1) (star_back hs.2)) fun σ H Q q => rd_meth (G := G) (F := F) (W := W) h3 q)
        · cases h
      | rlen k i =>
        simp only [chkE] at h
        split at h
        · simp only [Bool.and_eq_true, decide_eq_true_eq] at h
          obtain ⟨⟨⟨⟨h1, rfl⟩, h2⟩, h3⟩, h4⟩ := h
          obtain ⟨f, fd, ps, lvl, m1, m2, m3, m4⟩ := g.ms _ h3
          exact both (PE.imp (pe_callB (X := X) (call_lenR ⟨m1.at_, m1.fn, m3, m2, m4⟩) (glB_ok g h2) (g.blt _ (by decide)) boot_len (pa_cons (slotB_pe g h4) pa_nil rfl) (by decide) (by decide) rfl rfl) fun σ H Q q => rd_rlen (G := G) (F := F) (W := W) q)
        · cases h
      | rstr k i =>
        simp only [chkE] at h
        split at h
        · simp only [Bool.and_eq_true, decide_eq_true_eq] at h
          obtain ⟨⟨⟨⟨h1, rfl⟩, h2⟩, h3⟩, h4⟩ := h
          obtain ⟨f, fd, ps, lvl, m1, m2, m3, m4⟩ := g.ms _ h3
          exact both (PE.imp (pe_callTy (X := X) (call_strR ⟨m1.at_, m1.fn, m3, m2, m4⟩) (glB_ok g h2) (g.blt _ (by decide)) (by decide +kernel) (pa_cons (slotB_pe g h4) pa_nil rfl) (by decide) (by decide) rfl rfl) fun σ H Q q => rd_rstr (G := G) (F := F) (W := W) q)
        · cases h
      | req k i j b =>
        simp only [chkE] at h
        split at h
        · rename_i x px op y py pos
          simp only [Bool.and_eq_true, decide_eq_true_eq] at h
          obtain ⟨⟨⟨⟨h1, h2⟩, h3⟩, h4⟩, h5⟩ := h
          obtain ⟨f, fd, ps, lvl, m1, m2, m3, m4⟩ := g.ms _ h3
          have hK := (g.rt h1).1
          have dn : Dn X (G.fa 900) "__eq__" f fd ps lvl (spOf G.K G.fa G.ca (F k)) := ⟨m1.at_, m1.fn, m3, m2, m4⟩
          have hm : ∀ o : CmpOp, behindInMarks o (.Name y py) = false := fun o => by cases o <;> rfl
          cases b with
          | false =>
            have : op = .Eq := by
              unfold cmpO at h2
              cases op <;> first | rfl | cases h2
            subst this
            exact ⟨PE.imp (pe_cmpR (op_eqR dn) (slotB_pe g h4) (slotB_pe g h5) (hm _)) fun σ H Q q => (by
              rw [g.k]
              exact rd_req (F := F) (W := W) (by rw [← g.k]; exact hK) q), fun _ => PT.imp (pt_cmpR (op_eqR dn) (slotB_pe g h4) (slotB_pe g h5) (hm _)) fun σ H Q q => (by
              rw [g.k]
              exact rd_req (F := F) (W := W) (by rw [← g.k]; exact hK) q.val)⟩
          | true =>
            have : op = .NotEq := by
              unfold cmpO at h2
              cases op <;> first | rfl | cases h2
            subst this
            exact ⟨PE.imp (pe_cmpR (op_neR dn hK.ne hK.sub) (slotB_pe g h4) (slotB_pe g h5) (hm _)) fun σ H Q q => (by
              rw [g.k]
              exact rd_req (F := F) (W := W) (by rw [← g.k]; exact hK) q), fun _ => PT.imp (pt_cmpR (op_neR dn hK.ne hK.sub) (slotB_pe g h4) (slotB_pe g h5) (hm _)) fun σ H Q q => (by
              rw [g.k]
              exact rd_req (F := F) (W := W) (by rw [← g.k]; exact hK) q.val)⟩
        · cases h
      | reqD k i x =>
        simp only [chkE] at h
        split at h
        · simp only [Bool.and_eq_true, decide_eq_true_eq, Bool.not_eq_true'] at h
          obtain ⟨⟨⟨⟨h1, h2⟩, h3⟩, h4⟩, h5⟩ := h
          obtain ⟨f, fd, ps, lvl, m1, m2, m3, m4⟩ := g.ms _ h3
          have hK := (g.rt h1).1
          have dn : Dn X (G.fa 900) "__eq__" f fd ps lvl (spOf G.K G.fa G.ca (F k)) := ⟨m1.at_, m1.fn, m3, m2, m4⟩
          exact ⟨PE.imp (pe_cmpR (op_eqR dn) (slotB_pe g h4) (ih.e g h5).1 h2) fun σ H Q q => (by
            rw [g.k]
            exact rd_reqD (F := F) (W := W) (by rw [← g.k]; exact hK) q), fun _ => PT.imp (pt_cmpR (op_eqR dn) (slotB_pe g h4) (ih.e g h5).1 h2) fun σ H Q q => (by
            rw [g.k]
            exact rd_reqD (F := F) (W := W) (by rw [← g.k]; exact hK) q.val)⟩
        · cases h
      | isR i =>
        simp only [chkE] at h
        split at h
        · simp only [Bool.and_eq_true, decide_eq_true_eq] at h
          obtain ⟨⟨⟨⟨⟨h1, rfl⟩, h2⟩, rfl⟩, h3⟩, h4⟩ := h
          obtain ⟨hK, hm⟩ := g.rt h1
          exact both (PE.imp (pe_callB (X := X) call_isi (glB_ok g h2) (g.blt _ (by decide)) (by decide +kernel) (pa_cons (slotB_pe g h4) (pa_cons (pe_glob (v := .ref (G.fa 900)) (glB_ok g h3) hm rfl (by decide)) pa_nil rfl) rfl) (by decide) (by decide) rfl rfl) fun σ H Q q => by
            rw [g.k]
            exact rd_isR (F := F) (W := W) (by rw [← g.k]; exact hK) q)
        · cases h
      | mkq k xs ys => simp [chkE] at h
      | mkq1 k xs j => simp [chkE] at h
      | llast i k => simp [chkE] at h
      | lllen i => simp [chkE] at h
      | llnil i j p => simp [chkE] at h
      | mk k xs =>
        simp only [chkE] at h
        split at h
        · simp only [Bool.and_eq_true, decide_eq_true_eq] at h
          obtain ⟨⟨⟨⟨h1, h2⟩, h3⟩, h4⟩, h5⟩ := h
          obtain ⟨o1, o2, o3⟩ := okName_ok h3
          obtain ⟨Cl, f, fd, ps, lvl, m1, m2, m3, m4, m5⟩ := g.mks _ h1
          have hs := h4
          simp only [List.all_cons, Bool.and_eq_true] at hs
          exact both (PE.imp (pe_mkX (G := G) m2 m4 m5 (glB_ok g h2) m1 m3 g.takes (ih.a g h5).1 o1 (star_cons hs.1) (star_back hs.2)) fun σ H Q q => rd_mk (G := G) (F := F) (W := W) q)
        · cases h
      | tix x y =>
        simp only [chkE] at h
        split at h
        · rename_i a m apos b cpos
          simp only [Bool.and_eq_true, decide_eq_true_eq] at h
          obtain ⟨⟨⟨⟨⟨rfl, h2⟩, h3⟩, h4⟩, h5⟩, h6⟩ := h
          refine both (PE.imp (pe_tix g.hu (ih.e g h5).1 (pa_cons (ih.e g h6).1 pa_nil (star_cons h4)) ?_ ?_ h3 (star_cons h4)) fun σ H Q q => ?_)
          · cases a <;> first | rfl | (cases h2; done)
          · rw [star_cons h4]
            rfl
          · rw [g.k]
            exact rd_tix (G := G) (F := F) (W := W) q
        · cases h
      | dvals i =>
        simp only [chkE] at h
        split at h
        · simp only [Bool.and_eq_true, decide_eq_true_eq] at h
          obtain ⟨⟨⟨⟨⟨⟨rfl, h2⟩, rfl⟩, h4⟩, h5⟩, h6⟩, h7⟩ := h
          obtain ⟨o1, o2, o3⟩ := okName_ok h6
          exact both (PE.imp (pe_listVals g.calm (pe_var (i := i) (by rw [g.n]; exact h4) (by rw [g.sc]; exact visB_ok h5) o1 o2) (glB_ok g h2) (g.blt _ (by decide)) rfl h7) fun σ H Q q => rd_dvals (G := G) (F := F) (W := W) q)
        · cases h
      | dkeys i =>
        simp only [chkE] at h
        split at h
        · simp only [Bool.and_eq_true, decide_eq_true_eq] at h
          obtain ⟨⟨⟨⟨rfl, h2⟩, h4⟩, h5⟩, h6⟩ := h
          obtain ⟨o1, o2, o3⟩ := okName_ok h6
          exact both (PE.imp (pe_callB (call_sortedDI g.calm) (glB_ok g h2) (g.blt _ (by decide)) (by decide +kernel) (pa_cons (pe_var (i := i) (by rw [g.n]; exact h4) (by rw [g.sc]; exact visB_ok h5) o1 o2) pa_nil rfl)) fun σ H Q q => rd_dkeys (G := G) (F := F) (W := W) q)
        · cases h
      | fnv k =>
        simp only [chkE] at h
        split at h
        · simp only [Bool.and_eq_true, decide_eq_true_eq] at h
          obtain ⟨o1, o2, o3⟩ := okName_ok h.2
          obtain ⟨fd, ps, lvl, m1, m2, m3, m4, m5⟩ := g.fns _ h.1.1
          exact both (PE.imp (pe_glob (v := .ref (G.fa k)) (glB_ok g h.1.2) m1 rfl o1) fun σ H Q q => rd_fnv (G := G) (F := F) (W := W) q)
        · cases h
      | callV i ks xs =>
        simp only [chkE] at h
        split at h
        · simp only [Bool.and_eq_true, decide_eq_true_eq] at h
          obtain ⟨⟨⟨⟨⟨h1, h2⟩, h3⟩, h4⟩, h5⟩, h6⟩ := h
          obtain ⟨o1, o2, o3⟩ := okName_ok h3
          have hs := h5
          simp only [List.all_cons, Bool.and_eq_true] at hs
          have hf : ∀ k ∈ ks, ∃ x, FnGood X G F k x := fun k hk => by
            have := List.all_eq_true.mp h4 k hk
            obtain ⟨p, hp, he⟩ := List.any_eq_true.mp this
            obtain rfl := of_decide_eq_true he
            exact ⟨_, g.fns p hp⟩
          exact both (PE.imp (pe_callX hf g.takes (pe_var (i := i) (by rw [g.n]; exact h1) (by rw [g.sc]; exact visB_ok h2) o1 o2) (ih.a g h6).1 rfl (star_cons hs.1) (star_back hs.2)) fun σ H Q q => rd_callV (G := G) (F := F) (W := W) q)
        · cases h
      | sel ks w xs =>
        simp only [chkE] at h
        split at h
        · simp only [Bool.and_eq_true] at h
          obtain ⟨⟨⟨⟨⟨h1, h0⟩, h2⟩, h3⟩, h4⟩, h5⟩ := h
          have hs := h4
          simp only [List.all_cons, Bool.and_eq_true] at hs
          have hl := of_decide_eq_true h0
          have hf : ∀ k ∈ ks, ∃ x, FnGood X G F k x := fun k hk => by
            obtain ⟨x, hx⟩ := chkFns_mem h1 k hk
            exact ⟨x, g.fns _ hx⟩
          refine both (PE.imp (pe_callX hf g.takes (pe_ix ix_seq (pe_lst (pa_fns g h1)) (ih.e g h3).1 (plainIx h2)) (ih.a g h5).1 rfl (star_cons hs.1) (star_back hs.2)) fun σ H Q q => ?_)
          rw [g.k]
          exact rd_sel (G := G) (F := F) (W := W) hl q
        · cases h
      | pop i =>
        simp only [chkE] at h
        split at h
        · simp only [Bool.and_eq_true, decide_eq_true_eq] at h
          obtain ⟨⟨⟨⟨rfl, h2⟩, h3⟩, h4⟩, h5⟩ := h
          obtain ⟨o1, o2, o3⟩ := okName_ok h4
          exact both (PE.imp (pe_bm0 (X := X) PySem.F.plainAttrs_list PySem.F.slot_list_pop PySem.F.type_list_pop mt_pop (pe_var (i := i) (by rw [g.n]; exact h2) (by rw [g.sc]; exact visB_ok h3) o1 o2) rfl h5) fun σ H Q q => by
            rw [g.k]
            exact rd_pop (G := G) (F := F) (W := W) q)
        · cases h
      | slen i =>
        simp only [chkE] at h
        split at h
        · simp only [Bool.and_eq_true, decide_eq_true_eq] at h
          obtain ⟨⟨⟨⟨rfl, h2⟩, h3⟩, h4⟩, h5⟩ := h
          obtain ⟨o1, o2, o3⟩ := okName_ok h5
          exact both (PE.imp (pe_callB call_len (glB_ok g h2) (g.blt _ (by decide)) boot_len (pa_cons (pe_var (i := i) (by rw [g.n]; exact h3) (by rw [g.sc]; exact visB_ok h4) o1 o2) pa_nil rfl)) fun σ H Q q => by
            rw [g.k]
            exact rd_slen (G := G) (F := F) (W := W) q)
        · cases h
      | sidx i y =>
        simp only [chkE] at h
        split at h
        · simp only [Bool.and_eq_true, decide_eq_true_eq] at h
          obtain ⟨⟨⟨⟨h2, h3⟩, h4⟩, h5⟩, h6⟩ := h
          obtain ⟨o1, o2, o3⟩ := okName_ok h4
          exact both (PE.imp (pe_ix ix_seq (pe_var (i := i) (by rw [g.n]; exact h2) (by rw [g.sc]; exact visB_ok h3) o1 o2) (ih.e g h6).1 (plainIx h5)) fun σ H Q q => by
            rw [g.k]
            exact rd_sidx (G := G) (F := F) (W := W) q)
        · cases h
      | snil i =>
        simp only [chkE] at h
        split at h
        · simp only [Bool.and_eq_true, decide_eq_true_eq] at h
          obtain ⟨⟨h2, h3⟩, h4⟩ := h
          obtain ⟨o1, o2, o3⟩ := okName_ok h4
          have hu := g.hu
          have hr : X.A.units + 64 < cLine := by omega
          have pv : ∀ p : Pos, PE X (.Name _ p) (tVar i) := fun p => pe_var (X := X) (i := i) (by rw [g.n]; exact h2) (by rw [g.sc]; exact visB_ok h3) o1 o2
          refine ⟨PE.imp (pe_cmpR (or_eq hr) (pv _) (pe_lst pa_nil) rfl) fun σ H Q q => ?_, fun _ => PT.imp (pt_cmpR (or_eq hr) (pv _) (pe_lst pa_nil) rfl) fun σ H Q q => ?_⟩
          · rw [g.k]
            exact rd_snil (G := G) (F := F) (W := W) q
          · rw [g.k]
            exact rd_snil (G := G) (F := F) (W := W) q.val
        · cases h
      | lc x t it cond =>
        simp only [chkE] at h
        split at h
        · simp only [Bool.and_eq_true, decide_eq_true_eq] at h
          obtain ⟨⟨⟨⟨⟨⟨h1, h2⟩, h3⟩, h4⟩, h5⟩, h6⟩, h7⟩ := h
          have pi := ih.i g h1
          have ok := blkOk_by h4
          rw [← g.n, ← g.sc] at ok
          exact both (PE.imp (pe_lc (own := ownOf K t.slots) (g := gOf G.K t) (tt := tCond G F cond) (te := tEv G F Wf x) g.calm g.nd pi ok (fun s H C cl fp => tg_ok g.block.n g.block.nd g.block.calm g.block.k g.block.tgt h3) (fun s H C cl fp => ih.c g.block h6) (fun s H C cl fp => (ih.e g.block h7).1) (folded h2)) fun σ H Q q => by
            rw [h5]
            exact rd_lc (G := G) (F := F) (W := W) q)
        · cases h
      | stub => exact ⟨⟨fun pins s σ H Q I ⟨C, _, r, e, q⟩ => by rw [ev] at q; exact q.elim⟩, fun _ => ⟨fun pins s σ H Q I ⟨C, _, r, e, q⟩ => by rw [ev] at q; exact q.elim⟩⟩
      | dget i k x =>
        simp only [chkE] at h
        split at h
        · simp only [Bool.and_eq_true, decide_eq_true_eq] at h
          obtain ⟨⟨⟨⟨⟨⟨⟨⟨rfl, h2⟩, h3⟩, h4⟩, h5⟩, h6⟩, h7⟩, h8⟩, h9⟩ := h
          obtain ⟨o1, o2, o3⟩ := okName_ok h4
          have hu := g.hu
          refine both (PE.imp (pe_dget2 (X := X) (by omega) (pe_var (i := i) (by rw [g.n]; exact h2) (by rw [g.sc]; exact visB_ok h3) o1 o2) (ih.e g h8).1 (ih.e g h9).1 ⟨rfl, ?_, h5, ?_⟩) fun σ H Q q => rd_dget (G := G) (F := F) (W := W) q)
          · rw [star_cons h6, star_cons h7]
            rfl
          · rw [star_cons h6, star_cons h7]
            rfl
        · cases h
      | didx i k =>
        simp only [chkE] at h
        split at h
        · simp only [Bool.and_eq_true, decide_eq_true_eq] at h
          obtain ⟨⟨⟨⟨h2, h3⟩, h4⟩, h5⟩, h6⟩ := h
          obtain ⟨o1, o2, o3⟩ := okName_ok h4
          have hu := g.hu
          exact both (PE.imp (pe_dget (X := X) (by omega) (pe_var (i := i) (by rw [g.n]; exact h2) (by rw [g.sc]; exact visB_ok h3) o1 o2) (ih.e g h6).1 (plainIx h5)) fun σ H Q q => rd_didx (G := G) (F := F) (W := W) q)
        · cases h
      | prim o xs =>
        simp only [chkE] at h
        split at h
        · split at h
          · simp only [Bool.and_eq_true, decide_eq_true_eq] at h
            obtain ⟨⟨⟨⟨⟨rfl, h2⟩, rfl⟩, h4⟩, h5⟩, h6⟩ := h
            have pset := fun (p pos : Pos) => pe_callTy (X := X) (p := p) (pos := pos) (cr_setA g.calm g.hu) (glB_ok g h4) (g.blt _ (by decide)) (by decide +kernel) (ih.a g h6).1 (by decide) (by decide) (star_cons h5) rfl
            refine both (PE.imp (pe_callB (X := X) cr_lenT (glB_ok g h2) (g.blt _ (by decide)) boot_len (pa_cons (pset _ _) pa_nil rfl)) fun σ H Q q => ?_)
            rw [g.k]
            exact rd_nset (G := G) (F := F) (W := W) q
          · cases h
        · split at h
          · simp only [Bool.and_eq_true, decide_eq_true_eq] at h
            obtain ⟨⟨⟨⟨rfl, rfl⟩, h3⟩, h4⟩, h5⟩ := h
            refine both (PE.imp (pe_join (X := X) pe_str (ih.e g h5).1 (star_cons h4) rfl h3) fun σ H Q q => ?_)
            rw [g.k]
            exact rd_join (G := G) (F := F) (W := W) q
          · cases h
        · split at h
          · simp only [Bool.and_eq_true, decide_eq_true_eq] at h
            obtain ⟨⟨⟨rfl, rfl⟩, h3⟩, h4⟩ := h
            exact both (PE.imp (pe_split (X := X) (ih.e g h4).1 pe_str rfl rfl h3) fun σ H Q q => rd_split (G := G) (F := F) (W := W) q)
          · cases h
        · split at h
          · simp only [Bool.and_eq_true, decide_eq_true_eq] at h
            obtain ⟨⟨⟨rfl, h2⟩, h3⟩, h4⟩ := h
            refine both (PE.imp (pe_callB (X := X) (cr_sumL g.calm) (glB_ok g h2) (g.blt _ (by decide)) (by decide +kernel) (pa_cons (ih.e g h4).1 (pa_cons (pe_lst pa_nil) pa_nil rfl) (star_cons h3)) (by decide) (by decide) (star_cons h3) rfl) fun σ H Q q => ?_)
            rw [g.k]
            exact rd_sumL (G := G) (F := F) (W := W) q
          · cases h
        · split at h
          · simp only [Bool.and_eq_true, decide_eq_true_eq] at h
            obtain ⟨⟨⟨⟨⟨rfl, h2⟩, rfl⟩, h4⟩, h5⟩, h6⟩ := h
            exact both (PE.imp (pe_listRg (X := X) g.calm (glB_ok g h2) (g.blt _ (by decide)) (prg_1 (glB_ok g h4) (g.blt _ (by decide)) (ih.e g h6).1 (star_cons h5))) fun σ H Q q => rd_rngL (G := G) (F := F) (W := W) q)
          · cases h
        · split at h
          · simp only [Bool.and_eq_true, decide_eq_true_eq] at h
            obtain ⟨⟨⟨⟨⟨rfl, h2⟩, rfl⟩, h4⟩, h5⟩, h6⟩ := h
            exact both (PE.imp (pe_tupRg (X := X) g.calm (glB_ok g h2) (g.blt _ (by decide)) (prg_1 (glB_ok g h4) (g.blt _ (by decide)) (ih.e g h6).1 (star_cons h5))) fun σ H Q q => rd_rngT (G := G) (F := F) (W := W) q)
          · cases h
        · split at h
          · refine both (PE.imp (pe_revA (X := X) (ih.e g h).1) fun σ H Q q => ?_)
            rw [g.k]
            exact rd_rev (G := G) (F := F) (W := W) q
          · cases h
        · split at h
          · simp only [Bool.and_eq_true, decide_eq_true_eq] at h
            obtain ⟨⟨⟨⟨⟨⟨⟨rfl, h2⟩, h3⟩, rfl⟩, h5⟩, h6⟩, h7⟩, h8⟩ := h
            obtain ⟨o1, o2, o3⟩ := okName_ok h6
            obtain ⟨t', ht⟩ := g.gs _ h7
            exact both (PE.imp (pe_bm (X := X) PySem.F.plainAttrs_str PySem.F.slot_str_index PySem.F.type_str_index mt_tidx (pe_glob (v := .str _) (glB_ok g h5) ht ⟨t', rfl⟩ o1) (pa_cons (ih.e g h8).1 pa_nil (star_cons h3)) rfl (form_few h3) h2 (star_cons h3) rfl) fun σ H Q q => by
              rw [g.k]
              exact rd_tidx (G := G) (F := F) (W := W) q)
          · cases h
        · cases h
        split at h
        · -- a binary operator
          split at h
          · simp only [Bool.and_eq_true] at h
            obtain ⟨t, r, p⟩ := bin_rule (G := G) g.k h.1.1
            exact both (PE.imp (pe_op r (ih.e g h.1.2).1 (ih.e g h.2).1) fun σ H Q q => rd_bin (G := G) (F := F) (W := W) p q)
          · cases h
        · split at h
          · simp only [Bool.and_eq_true, Bool.not_eq_true'] at h
            obtain ⟨t, r, p⟩ := cmp_rule (G := G) g.k g.hu h.1.1.1
            have a := (ih.e g h.1.2).1
            have b := (ih.e g h.2).1
            exact ⟨PE.imp (pe_cmpR r a b h.1.1.2) fun σ H Q q => rd_bin p q, fun _ => PT.imp (pt_cmpR r a b h.1.1.2) fun σ H Q q => rd_bin p q.val⟩
          · cases h
        · split at h
          · exact both (PE.imp (pe_un un_neg (ih.e g h).1) fun σ H Q q => rd_un (G := G) (F := F) (W := W) (fun C hC => p_neg) q)
          · cases h
        · have slr : SlR X (tSlR G.K) := by rw [← g.k]; exact sl_any
          split at h
          · exact both (PE.imp (pe_slice slr (ih.e g h).1 po_none po_none) fun σ H Q q => rd_sl0 (G := G) (F := F) (W := W) q)
          · simp only [Bool.and_eq_true] at h
            exact both (PE.imp (pe_slice slr (ih.e g h.1).1 (po_some (ih.e g h.2).1) po_none) fun σ H Q q => rd_slL (G := G) (F := F) (W := W) q)
          · simp only [Bool.and_eq_true] at h
            exact both (PE.imp (pe_slice slr (ih.e g h.1).1 po_none (po_some (ih.e g h.2).1)) fun σ H Q q => rd_slH (G := G) (F := F) (W := W) q)
          · cases h
        · split at h
          · simp only [Bool.and_eq_true] at h
            exact both (PE.imp (pe_ix ix_seq (ih.e g h.1.2).1 (ih.e g h.2).1 (plainIx h.1.1)) fun σ H Q q => by
              rw [g.k]
              exact rd_bin (G := G) (F := F) (W := W) (fun C hC => by subst hC; exact p_idx) q)
          · cases h
        · split at h
          · simp only [Bool.and_eq_true, decide_eq_true_eq] at h
            obtain ⟨⟨⟨⟨⟨rfl, h2⟩, rfl⟩, h4⟩, h5⟩, h6⟩ := h
            exact both (x_isi (ty := by assumption) g h2 h4 h5 (ih.e g h6).1)
          · simp only [Bool.and_false] at h
            cases h
        · simp only [Bool.and_eq_true] at h
          obtain ⟨r, pe, p⟩ := blt_rule g h.1.1.1 h.1.1.2 h.1.2 (ih.a g h.2).1
          exact both (PE.imp pe fun σ H Q q => rd_call (G := G) (F := F) (W := W) p q)
        · cases h
    · unfold chkA at h
      split at h
      · exact ⟨PA.imp pa_nil fun σ H Q q => rd_anil q, rfl⟩
      · simp only [Bool.and_eq_true] at h
        obtain ⟨h1, h2⟩ := ih.a g h.2
        exact ⟨PA.imp (pa_cons (ih.e g h.1.2).1 h1 (star_cons h.1.1)) fun σ H Q q => rd_acons q, by rw [List.all_cons, h.1.1, h2]; rfl⟩
      · cases h
    · unfold chkC at h
      split at h
      · exact pts_nil
      · simp only [Bool.and_eq_true] at h
        exact pts_one ((ih.e g h.2).2 h.1)
      · cases h
    · cases x with
      | seq x =>
        simp only [chkI] at h
        exact PI.imp (pi_any (ih.e g h).1) fun σ H Q q => by
          rw [g.k]
          exact rd_seq q
      | dwn x =>
        simp only [chkI] at h
        split at h
        · simp only [Bool.and_eq_true, decide_eq_true_eq] at h
          obtain ⟨⟨⟨rfl, h2⟩, h3⟩, h4⟩ := h
          exact PI.imp (pi_range3 (X := X) (glB_ok g h2) (g.blt _ (by decide)) (pa_cons (ih.e g h4).1 (pa_cons (pe_un un_neg pe_int) (pa_cons (pe_un un_neg pe_int) pa_nil rfl) rfl) (star_cons h3)) (star_cons h3) rfl) fun σ H Q q => rd_dwn q
        · cases h
      | rng xs =>
        simp only [chkI] at h
        split at h
        · simp only [Bool.and_eq_true, decide_eq_true_eq] at h
          obtain ⟨⟨⟨rfl, h2⟩, h3⟩, h4⟩ := h
          exact PI.imp (pi_range1 (glB_ok g h2) (g.blt _ (by decide)) (ih.a g h4).1 (star_cons h3)) fun σ H Q q => rd_rng1 q
        · simp only [Bool.and_eq_true, decide_eq_true_eq] at h
          obtain ⟨⟨⟨⟨rfl, h2⟩, h3⟩, h3'⟩, h4⟩ := h
          exact PI.imp (pi_range2 (glB_ok g h2) (g.blt _ (by decide)) (ih.a g h4).1 (by rw [star_cons h3, star_cons h3']; rfl) (by rw [star_cons h3']; rfl)) fun σ H Q q => rd_rng2 q
        · cases h
      | zip xs =>
        simp only [chkI, Bool.and_eq_true] at h
        obtain ⟨ht, h⟩ := h
        cases tg <;> first | (cases ht; done) | skip
        split at h
        · simp only [Bool.and_eq_true, decide_eq_true_eq] at h
          obtain ⟨⟨⟨⟨rfl, h2⟩, h3⟩, h3'⟩, h4⟩ := h
          refine PI.imp (pi_z2 (glB_ok g h2) (g.blt _ (by decide)) (ih.a g h4).1 (star_cons h3) (by rw [star_cons h3']; rfl)) fun σ H Q q => ?_
          rw [g.k]
          exact rd_zip2 q
        · simp only [Bool.and_eq_true, decide_eq_true_eq] at h
          obtain ⟨⟨⟨⟨⟨rfl, h2⟩, h3⟩, h3'⟩, h3''⟩, h4⟩ := h
          refine PI.imp (pi_z3 (glB_ok g h2) (g.blt _ (by decide)) (ih.a g h4).1 (star_cons h3) (by rw [star_cons h3', star_cons h3'']; rfl)) fun σ H Q q => ?_
          rw [g.k]
          exact rd_zip3 q
        · cases h
      | enum x =>
        simp only [chkI, Bool.and_eq_true] at h
        obtain ⟨ht, h⟩ := h
        cases tg <;> first | (cases ht; done) | skip
        split at h
        · simp only [Bool.and_eq_true, decide_eq_true_eq] at h
          obtain ⟨⟨⟨rfl, h2⟩, h3⟩, h4⟩ := h
          refine PI.imp (pi_e2 (glB_ok g h2) (g.blt _ (by decide)) (ih.a g h4).1 (star_cons h3)) fun σ H Q q => ?_
          rw [g.k]
          exact rd_enum q
        · cases h
end
end Ap

end
section
/-! A try with several except clauses, the last with a name. -/
namespace Ap
open PySem PySem.Spec PyProof.Rows L2
open L2N (Zn)

/-- an exception of the try's body has been noted: it stands at a -/
structure Land (X : Cx) (pins : List (Addr × Obj)) (σ : St) (H : Hp) (cls : Value) (d : Option Addr) (a : Addr) (B : Heap) (sI s : Shared) : Prop where
  inv : Inv X pins σ H sI
  nb : ∀ b o, sI.heap.get? b = some o → b ∉ frs X.stack → B.get? b = some o
  up : sI.heap.UpToSlots s.heap
  fl : HandSPX.FlyingZ B (X.env :: X.outer) a (Zn cls d) s.heap
  os : s.os = sI.os
  ag : AllBare s.gens
  na : H a = none
/-- the clauses hds do what W wishes -/
def Cat (X : Cx) (hds : List ExceptHandler) (W : Ends → WX) : Prop := ∀ (pins : List (Addr × Obj)) (D : Ends) (σ : St) (H : Hp) (cls : Value) (d : Option Addr) (a : Addr) (B : Heap) (sI s : Shared),
  Land X pins σ H cls d a B sI s → W D cls d σ H → wpAny (model X.prog X.w) X.A (handleBy (.ref a) X.env hds) (SP X pins D) X.xe s
section
variable {X : Cx} {pins : List (Addr × Obj)} {σ : St} {H : Hp} {cls : Value} {d : Option Addr} {a : Addr} {B : Heap} {sI s : Shared}
theorem Land.here (l : Land X pins σ H cls d a B sI s) : Inv X pins σ H s := l.inv.landed l.nb l.fl.1 l.up l.os l.ag
theorem Land.away (l : Land X pins σ H cls d a B sI s) (hf : X.env.frame = some X.env.locals) : a ≠ X.env.locals ∧ a ∉ X.fs := by
  obtain ⟨oe, vs, he, hz, hd⟩ := l.fl.there
  have nfr : a ∉ frs (X.env :: X.outer) := fun hm => by
    obtain ⟨_, o', e', hnf⟩ := l.fl.2.2.1.mem hm
    rw [he] at e'; cases e'
    exact hnf _ hd
  refine ⟨fun z => nfr (List.mem_filterMap.mpr ⟨X.env, List.mem_cons_self, by rw [hf, z]⟩), fun hm => ?_⟩
  obtain ⟨e, he, q⟩ := List.mem_filterMap.mp hm
  exact nfr (List.mem_filterMap.mpr ⟨e, List.mem_cons_of_mem _ he, q⟩)
/-- the exception stands still once more -/
theorem Land.again (l : Land X pins σ H cls d a B sI s) {Q : Unit → Shared → Prop} {E : Value → Shared → Prop} {A : Around} (q : ∀ h, Land X pins σ H cls d a B sI { s with heap := h } → Q () { s with heap := h }) : wpAny (model X.prog X.w) A (setFlight (.ref a) none) Q E s :=
  HandSPX.lands_againZ l.fl fun h fl up => q h ⟨l.inv, l.nb, l.up.trans up, fl, l.os, l.ag, l.na⟩
theorem Land.test (l : Land X pins σ H cls d a B sI s) (hf : X.env.frame = some X.env.locals) {x : Str} {c : Value} {np : Pos} (hc : Names X x c) {Q : Value → Shared → Prop} {E : Value → Shared → Prop} (q : Q c s) :
    wpAny (model X.prog X.w) (X.A.mark (some (.ref a))) (eval (.Name x np) X.env) Q E s := by
  obtain ⟨oe, vs, he, hz, hd⟩ := l.fl.there
  obtain ⟨nL, nF⟩ := l.away hf
  have S := l.here.suite he hd l.na nL nF
  obtain ⟨hg, hdbg, hm | ⟨hm, hv, hnn⟩⟩ := hc
  · exact ld_glob (X := X.suite a ((a, oe) :: (X.pn ++ pins))) S hg hm q hdbg
  · exact ld_blt (X := X.suite a ((a, oe) :: (X.pn ++ pins))) S hg hm hv q hnn hdbg
theorem Land.asks (l : Land X pins σ H cls d a B sI s) {c : Value} {b : Bool} (hb : PySem.W.exmOne X.K cls c = some b) : PySem.W.Looks (model X.prog X.w) s.heap (PySem.excMatches (.ref a) c) b := by
  obtain ⟨oe, vs, he, hz, hd⟩ := l.fl.there
  exact PySem.W.exm_one (M := model X.prog X.w) l.here.kIn (fun A Q E s k q => wpAny_typeOf_ref (k _ _ he) (by rw [hz.1]; exact q)) hb
end
section
variable {X : Cx} {x n : Str} {c : Value} {i : Nat} {body suite : List Stmt} {b₀ : Stmt} {np pos pos' : Pos} {tb : WX → TS} {ts : Addr → Value → Option Addr → TS} {hds : List ExceptHandler} {W : Ends → WX}
def wOne (K : PySem.W.Frag) (c : Value) (ts : Addr → Value → Option Addr → TS) (W : Ends → WX) : Ends → WX := fun D cls d σ H =>
  ∃ b, PySem.W.exmOne K cls c = some b ∧ (b = true → ∀ a, H a = none → ts a cls d D σ H) ∧ (b = false → W D cls d σ H)
theorem cat_plain (hf : X.env.frame = some X.env.locals) (hc : Names X x c)
    (hsu : ∀ (a : Addr) (oe : Obj) (cls : Value) (d : Option Addr) (pn : List (Addr × Obj)), Zn cls d oe → (∃ vs, oe.data = .fields vs) → PSs (X.suite a ((a, oe) :: pn)) (b₀ :: suite) (ts a cls d)) (hr : Cat X hds W) :
    Cat X (.ExceptHandler (some (.Name x np)) none (b₀ :: suite) pos' :: hds) (wOne X.K c ts W) := by
  intro pins D σ H cls d a B sI s l w
  obtain ⟨b, hb, yes, no⟩ := w
  refine wpAny_handleBy_cons (codeAny_handlers_test ?_) (by intro q; cases q)
  refine l.test hf hc ((l.asks hb).here ?_)
  cases b with
  | false => exact hr pins D σ H cls d a B sI s l (no rfl)
  | true =>
    refine codeAny_handlers_suite (l.again fun h l2 => ?_)
    obtain ⟨oe, vs, he, hz, hd⟩ := l2.fl.there
    obtain ⟨nL, nF⟩ := l2.away hf
    refine wpAny_mono ((hsu a oe cls d (X.pn ++ pins) hz ⟨_, hd⟩).run [] _ _ H _ (l2.here.suite he hd l2.na nL nF) (yes rfl a l2.na)) (fun f s6 hsp => ?_) (fun _ _ z => False.elim z)
    have ok := l.inv.ok
    cases f with
    | next => obtain ⟨σ6, H6, S6, q6⟩ := hsp; exact ⟨_, _, S6.unsuite ok, q6⟩
    | brk => obtain ⟨σ6, H6, S6, q6⟩ := hsp; exact ⟨_, _, S6.unsuite ok, q6⟩
    | cont => obtain ⟨σ6, H6, S6, q6⟩ := hsp; exact ⟨_, _, S6.unsuite ok, q6⟩
    | ret u => obtain ⟨v6, σ6, H6, S6, r6, q6⟩ := hsp; exact ⟨_, _, _, S6.unsuite ok, r6, q6⟩
/-- the last clause must take it -/
def wLast (K : PySem.W.Frag) (c : Value) (i : Nat) (ts : Addr → Value → Option Addr → TS) : Ends → WX := fun D cls d σ H =>
  PySem.W.exmOne K cls c = some true ∧ ∀ a, H a = none → ts a cls d { nx := fun σ' H' => D.nx (σ'.set i none) H', rt := D.rt, bk := fun σ' H' => D.bk (σ'.set i none) H', ct := fun σ' H' => D.ct (σ'.set i none) H' } (σ.set i (some (.ref a))) H
theorem cat_last (hf : X.env.frame = some X.env.locals) (hN : X.N.Nodup) (hi : X.N[i]? = some n) (hln : X.env.kindOf n = some .local) (hc : Names X x c)
    (hsu : ∀ (a : Addr) (oe : Obj) (cls : Value) (d : Option Addr) (pn : List (Addr × Obj)), Zn cls d oe → (∃ vs, oe.data = .fields vs) → PSs (X.suite a ((a, oe) :: pn)) (b₀ :: suite) (ts a cls d)) :
    Cat X [.ExceptHandler (some (.Name x np)) (some n) (b₀ :: suite) pos'] (wLast X.K c i ts) := by
  intro pins D σ H cls d a B sI s l w
  obtain ⟨hb, yes⟩ := w
  refine wpAny_handleBy_cons (codeAny_handlers_test ?_) (by intro q; cases q)
  refine l.test hf hc ((l.asks hb).here ?_)
  refine codeAny_handlers_suite_as (l.again fun h l2 => ?_)
  obtain ⟨oe, vs, he, hz, hd⟩ := l2.fl.there
  obtain ⟨nL, nF⟩ := l2.away hf
  have ok := l.inv.ok
  refine store_ok (X := X.suite a ((a, oe) :: (X.pn ++ pins))) (v := .ref a) (l2.here.suite he hd l2.na nL nF) hN hi (.inl hln) rfl (fun s5 S5 => ?_) (.inr hln)
  refine wpAny_mono ((hsu a oe cls d (X.pn ++ pins) hz ⟨_, hd⟩).run [] s5 _ H _ S5 (yes a l2.na)) (fun f s6 hsp => ?_) (fun _ _ z => False.elim z)
  cases f with
  | next => obtain ⟨σ6, H6, S6, q6⟩ := hsp; exact gone_ok (S6.unsuite ok) hN hi hln fun s7 J7 => ⟨_, _, J7, q6⟩
  | brk => obtain ⟨σ6, H6, S6, q6⟩ := hsp; exact gone_ok (S6.unsuite ok) hN hi hln fun s7 J7 => ⟨_, _, J7, q6⟩
  | cont => obtain ⟨σ6, H6, S6, q6⟩ := hsp; exact gone_ok (S6.unsuite ok) hN hi hln fun s7 J7 => ⟨_, _, J7, q6⟩
  | ret u => obtain ⟨v6, σ6, H6, S6, r6, q6⟩ := hsp; exact gone_ok (S6.unsuite ok) hN hi hln fun s7 J7 => ⟨_, _, _, J7, r6, q6⟩
theorem ps_try_cat {h₀ : ExceptHandler} (hs : X.stack = X.env :: X.outer) (hf : X.env.frame = some X.env.locals)
    (hb : ∀ (W : WX) (pn : List (Addr × Obj)) (xe : Value → Shared → Prop), L2N.Takes (X.tr pn xe) W → PassesOwn (model X.prog X.w) X.A X.env xe → PSs (X.tr pn xe) body (tb W)) (hh : Cat X (h₀ :: hds) W) :
    PS X (.Try body (h₀ :: hds) [] [] pos) (fun D σ H => tb (W D) D σ H) := by
  refine ⟨fun pins s σ H D I h => ?_⟩
  have ok := I.ok
  refine wpAny_Try_except (wpAny_mono ((hb (W D) (X.pn ++ pins) (fun e s₁ => wpAny (model X.prog X.w) X.A (noteFrame e X.env) (fun _ s₂ => wpAny (model X.prog X.w) X.A (setFlight e none) (fun _ s₃ =>
    wpAny (model X.prog X.w) X.A (handleBy e X.env (h₀ :: hds)) (SP X pins D) X.xe s₃) X.xe s₂) X.xe s₁) (fun u s' xx => ?_) PassesOwn.looking).run [] s σ H D (I.toTry _) h) (fun f s1 hsp => ?_) (fun e s1 he => he))
  · obtain ⟨a, B, sI, pins', σ', H', cls, d, rfl, J', nb, up, sky, na, os, ag, w⟩ := xx
    refine L2N.Sky.land (env := X.env) (outer := X.outer) Zn.steady (by rw [ok.frames, hs]) hf (by rw [← hs]; exact sky) fun h3 fl up3 => ?_
    exact hh pins D σ' H' cls d a B sI _ ⟨J'.ofTry ok, nb, up.trans up3, fl, os, ag, na⟩ w
  · cases f with
    | next => obtain ⟨σ', H', J', q⟩ := hsp; exact wpAny_execs_nil ⟨σ', H', J'.ofTry ok, q⟩
    | brk => obtain ⟨σ', H', J', q⟩ := hsp; exact ⟨σ', H', J'.ofTry ok, q⟩
    | cont => obtain ⟨σ', H', J', q⟩ := hsp; exact ⟨σ', H', J'.ofTry ok, q⟩
    | ret u => obtain ⟨v, σ', H', J', r, q⟩ := hsp; exact ⟨v, σ', H', J'.ofTry ok, r, q⟩
end
end Ap

end
section
/-! The checker for statements. -/
namespace Ap
open PySem PySem.Spec PyProof.Rows L2

def notTuple : Expr → Bool
  | .Tuple .. => false
  | _ => true
def swNames (sc : Scope) (ts : List Expr) : List Str := ts.filterMap fun
  | .Name id pos => if sc.names.lookup id == some .local && pos.line == (ts.head?.map (·.pos.line)).getD 0 then some id else none
  | _ => none
def swNone (sc : Scope) (ts vs : List Expr) : Bool :=
  !(ts.length == 2 || ts.length == 3) || vs.length != ts.length || (swNames sc ts).length != ts.length || (swNames sc ts).eraseDups.length != (swNames sc ts).length || vs.all (foldedForSure 8)
def swSome (sc : Scope) (ts vs : List Expr) (x y : Str) : Bool :=
  ts.length == 2 && vs.length == ts.length && vs.all noStar && decide (swNames sc ts = [x, y]) && !vs.all (foldedForSure 8) && !vs.all (constantsAlone 8) && decide (x ≠ y)
def swSome3 (sc : Scope) (ts vs : List Expr) (xs : List Str) : Bool :=
  ts.length == 3 && vs.length == ts.length && vs.all noStar && decide (swNames sc ts = xs) && !vs.all (foldedForSure 8) && !vs.all (constantsAlone 8) && decide (xs.length = 3 ∧ xs.eraseDups.length = 3)
theorem any_star {vs : List Expr} (h : vs.all noStar = true) : (vs.any fun | .Starred .. => true | _ => false) = false := by
  induction vs with
  | nil => rfl
  | cons v vs ih =>
    simp only [List.all_cons, Bool.and_eq_true] at h
    rw [List.any_cons, ih h.2]
    cases v <;> first | rfl | (cases h.1)
theorem swNone_ok {env : PySem.Env} {sc : Scope} {ts vs : List Expr} {k k2 : Nat} {p p2 : Pos} (hs : env.scope = sc) (hk : sc.kind = .function) (h : swNone sc ts vs = true) : swappedStores [.Tuple ts k p] (.Tuple vs k2 p2) env = pure none := by
  have hb : env.blockKind = .function := by unfold Env.blockKind; rw [hs, hk]; rfl
  have hkn : ∀ id, env.kindOf id = sc.names.lookup id := fun id => by unfold Env.kindOf; rw [hs]
  unfold swappedStores
  simp only [hb, hkn]
  unfold swNone at h
  simp only [Bool.or_eq_true] at h
  split
  · rfl
  · rename_i n1
    split
    · rfl
    · split
      · rfl
      · rename_i n3
        split
        · rfl
        · rename_i n4
          exfalso
          rcases h with (((h | h) | h) | h) | h
          · exact n1 (by rw [h]; rfl)
          · exact n1 (by rw [h]; simp)
          · exact n3 (Bool.or_eq_true_iff.mpr (.inl h))
          · exact n3 (Bool.or_eq_true_iff.mpr (.inr h))
          · exact n4 h
theorem swSome_ok {env : PySem.Env} {sc : Scope} {ts vs : List Expr} {k k2 : Nat} {p p2 : Pos} {x y : Str} (hs : env.scope = sc) (hk : sc.kind = .function) (h : swSome sc ts vs x y = true) : swappedStores [.Tuple ts k p] (.Tuple vs k2 p2) env = pure (some [x, y]) := by
  have hb : env.blockKind = .function := by unfold Env.blockKind; rw [hs, hk]; rfl
  have hkn : ∀ id, env.kindOf id = sc.names.lookup id := fun id => by unfold Env.kindOf; rw [hs]
  unfold swappedStores
  simp only [hb, hkn]
  unfold swSome at h
  simp only [Bool.and_eq_true, Bool.not_eq_true', decide_eq_true_eq] at h
  obtain ⟨⟨⟨⟨⟨⟨h1, h2⟩, h3⟩, h4⟩, h5⟩, h6⟩, h7⟩ := h
  have h2' : vs.length = ts.length := by simpa using h2
  have h1' : ts.length = 2 := by simpa using h1
  rw [if_neg (by rw [h1, h2']; simp), if_neg (by rw [Bool.not_eq_true]; exact any_star h3)]
  have e4 : (List.filterMap (fun (x : Expr) => match x with
    | Expr.Name id pos => if (List.lookup id sc.names == some NameKind.local && pos.line == (Option.map (fun x => x.pos.line) ts.head?).getD 0) = true then some id else none
    | x => none) ts) = [x, y] := h4
  have key : ∀ (A : List Str), A = [x, y] → (if (A.length != ts.length || A.eraseDups.length != A.length) = true then (pure none : Sem (Option (List Str))) else if vs.all (foldedForSure 8) = true then pure none else if vs.all (constantsAlone 8) = true then (do unsupported "assign.tuple-of-constant-expressions:order-of-the-stores"; pure (some A)) else pure (some A)) = pure (some [x, y]) := by
    intro A hA
    subst hA
    have hd : ([x, y] : List Str).eraseDups.length = 2 := by
      have : (y == x) = false := by simpa using Ne.symm h7
      simp [List.eraseDups_cons, this]
    rw [if_neg (by rw [hd, h1']; simp), if_neg (by rw [h5]; simp), if_neg (by rw [h6]; simp)]
  exact key _ e4
theorem swSome3_ok {env : PySem.Env} {sc : Scope} {ts vs : List Expr} {k k2 : Nat} {p p2 : Pos} {xs : List Str} (hs : env.scope = sc) (hk : sc.kind = .function) (h : swSome3 sc ts vs xs = true) : swappedStores [.Tuple ts k p] (.Tuple vs k2 p2) env = pure (some xs) := by
  have hb : env.blockKind = .function := by unfold Env.blockKind; rw [hs, hk]; rfl
  have hkn : ∀ id, env.kindOf id = sc.names.lookup id := fun id => by unfold Env.kindOf; rw [hs]
  unfold swappedStores
  simp only [hb, hkn]
  unfold swSome3 at h
  simp only [Bool.and_eq_true, Bool.not_eq_true', decide_eq_true_eq] at h
  obtain ⟨⟨⟨⟨⟨⟨h1, h2⟩, h3⟩, h4⟩, h5⟩, h6⟩, h7, h8⟩ := h
  have h2' : vs.length = ts.length := by simpa using h2
  have h1' : ts.length = 3 := by simpa using h1
  rw [if_neg (by rw [h1, h2']; simp), if_neg (by rw [Bool.not_eq_true]; exact any_star h3)]
  have e4 : (List.filterMap (fun (x : Expr) => match x with
    | Expr.Name id pos => if (List.lookup id sc.names == some NameKind.local && pos.line == (Option.map (fun x => x.pos.line) ts.head?).getD 0) = true then some id else none
    | x => none) ts) = xs := h4
  have key : ∀ (A : List Str), A = xs → (if (A.length != ts.length || A.eraseDups.length != A.length) = true then (pure none : Sem (Option (List Str))) else if vs.all (foldedForSure 8) = true then pure none else if vs.all (constantsAlone 8) = true then (do unsupported "assign.tuple-of-constant-expressions:order-of-the-stores"; pure (some A)) else pure (some A)) = pure (some xs) := by
    intro A hA
    subst hA
    rw [if_neg (by rw [h7, h8, h1']; simp), if_neg (by rw [h5]; simp), if_neg (by rw [h6]; simp)]
  exact key _ e4
theorem swNot {env : PySem.Env} {tg e : Expr} (h : notTuple e = true) : swappedStores [tg] e env = pure none := by
  cases tg <;> cases e <;> first | rfl | cases h
theorem sw_comp {env : PySem.Env} {tg : Option Expr} {e : Expr} {l : Nat} (h : notComp e = true) : swapsWith e tg l env = pure false := by
  cases e <;> first | rfl | cases h
/-! ### the checker -/
def augO : Operator → Op → Bool
  | .Add, .addI => true
  | .Mult, .mulI => true
  | _, _ => false
/-- the target of a comprehension's assignment is stored within it -/
def swB (sc scope : Scope) (y : Str) (py lpos : Pos) : Bool := (match sc.names.lookup y with | some .local => true | _ => false) && (py.line == lpos.line) && !(scope.names.any fun (n, k) => n == y && (k == .local || k == .cell))
def swFree (sc : Scope) : Expr → Expr → Bool
  | .Tuple ts _ _, .Tuple vs _ _ => swNone sc ts vs
  | .Name y py, .ListComp _ _ scope lpos => !swB sc scope y py lpos
  | .List .., _ => false
  | _, e => notComp e
def chkN (K : Ck) : Nat → Scope → Expr → Ex → Bool
  | 0, _, _, _ => false
  | n + 1, sc, e, x => (match e, x with
    | .List es _, .lst xs => chkA K n sc es xs
    | .Call (.Name f _) [a] [] _, .prim .listOf [x] => decide (f = "list") && glB sc f && noStar a && chkA K n sc [a] [x]
    | .ListComp elt gens scope pos, .lc x t it cond => chkE K (n + 1) sc (.ListComp elt gens scope pos) (.lc x t it cond)
    | .IfExp c a b _, .ite x y z => chkE K n sc c x && notIf c && chkN K n sc a y && chkN K n sc b z
    | _, _ => false)
def isSw (sc : Scope) (y : Str) (py : Pos) : Expr → Bool
  | .ListComp _ _ scope lpos => swB sc scope y py lpos
  | _ => false
/-- x = [f, g, ..]; return x[w](..) -/
def chkSel (K : Ck) (n : Nat) (sc : Scope) : List Stmt → Sm → Bool
  | .Assign [.Name y py] (.List fs _) _ :: .Return (some (.Call (.Subscript (.Name y2 _) b _) (a :: as) [] _)) _ :: _, .selS i ks w es =>
    decide (y2 = y) && chkTg K sc (.Name y py) (.one i) && okName y && visB sc y && chkFns K sc fs ks && decide (ks.length ≤ 1000) && notSlice b && chkE K n sc b w && (a :: as).all noStar && chkA K n sc (a :: as) es
  | _, _ => false
/-- x = [list(row) for row in g]; x[t[a]][t[b]] = v -/
def chkP2 (K : Ck) (n : Nat) (sc : Scope) : List Stmt → Sm → Bool
  | .Assign [.Name y py] (.ListComp (.Call (.Name f fp) [.Name z zp] [] cp) gens scope lpos) ap :: .Assign [.Subscript (.Subscript (.Name y2 _) (.Subscript (.Name t _) (.Constant (.int a) _ _) _) _) (.Subscript (.Name t2 _) (.Constant (.int b) _ _) _) _] (.Constant (.int w) _ _) _ :: _, .put2 i s j ri c1 c2 v =>
    isSw sc y py (.ListComp (.Call (.Name f fp) [.Name z zp] [] cp) gens scope lpos) && chkE K n sc (.ListComp (.Call (.Name f fp) [.Name z zp] [] cp) gens scope lpos) (.lc (.prim .listOf [.var ri]) (.one ri) (.seq (.var s)) []) && chkTg K sc (.Name y py) (.one i) && decide (f = "list") && glB (relS scope sc) f && decide (K.N[ri]? = some z) && visB (relS scope sc) z && okName z &&
    decide (y2 = y) && okName y && visB sc y && decide (K.N[j]? = some t) && decide (t2 = t) && okName t && visB sc t && decide (a = c1) && decide (b = c2) && decide (w = v)
  | _, _ => false
mutual
def chkS (K : Ck) : Nat → Scope → Stmt → Sm → Bool
  | 0, _, _, _ => false
  | n + 1, sc, st, .asg tg x => (match st with
    | .Assign [t] e _ => chkTg K sc t tg && chkE K n sc e x && (match t with
      | .Name y py => isSw sc y py e || swFree sc t e
      | _ => swFree sc t e)
    | _ => false)
  | n + 1, sc, st, .asgL is x => (match st with
    | .Assign [.Tuple es _ _] (.ListComp elt gens scope lpos) _ => chkTgs K sc es is && chkE K n sc (.ListComp elt gens scope lpos) x
    | _ => false)
  | n + 1, sc, st, .new i x => (match st with
    | .Assign [.Name y py] e _ => chkTg K sc (.Name y py) (.one i) && chkN K n sc e x && (isSw sc y py e || swFree sc (.Name y py) e)
    | _ => false)
  | n + 1, sc, st, .par i j oi oj a b => (match st with
    | .Assign [.Tuple [.Name x px, .Name y py] _ _] (.Tuple [e1, e2] _ _) _ => decide (K.N[i]? = some x) && decide (K.N[j]? = some y) && decide (i ≠ j) && swSome sc [.Name x px, .Name y py] [e1, e2] x y && noStar e1 && noStar e2 &&
        (if oi then chkN K n sc e1 a else chkE K n sc e1 a) && (if oj then chkN K n sc e2 b else chkE K n sc e2 b) && decide (sc.names.lookup x = some .local) && decide (sc.names.lookup y = some .local)
    | _ => false)
  | n + 1, sc, st, .par3 i j l a b c => (match st with
    | .Assign [.Tuple [.Name x px, .Name y py, .Name z pz] _ _] (.Tuple [e1, e2, e3] _ _) _ => decide (K.N[i]? = some x) && decide (K.N[j]? = some y) && decide (K.N[l]? = some z) && decide (i ≠ j ∧ i ≠ l ∧ j ≠ l) && swSome3 sc [.Name x px, .Name y py, .Name z pz] [e1, e2, e3] [x, y, z] && noStar e1 && noStar e2 && noStar e3 &&
        chkE K n sc e1 a && chkE K n sc e2 b && chkE K n sc e3 c && decide (sc.names.lookup x = some .local) && decide (sc.names.lookup y = some .local) && decide (sc.names.lookup z = some .local)
    | _ => false)
  | n + 1, sc, st, .aug o i x => (match st with
    | .AugAssign (.Name y _) op e _ => decide (K.N[i]? = some y) && locB sc y && augO op o && chkE K n sc e x
    | _ => false)
  | n + 1, sc, st, .app i x => (match st with
    | .Expr (.Call (.Attribute (.Name y _) m apos) [e] [] cpos) _ => decide (m = "append") && decide (K.N[i]? = some y) && visB sc y && okName y && (apos.endLine == cpos.line) && noStar e && chkA K n sc [e] [x]
    | _ => false)
  | n + 1, sc, st, .ext i x => (match st with
    | .Expr (.Call (.Attribute (.Name y _) m apos) [e] [] cpos) _ => decide (m = "extend") && decide (K.N[i]? = some y) && visB sc y && okName y && (apos.endLine == cpos.line) && noStar e && chkA K n sc [e] [x]
    | _ => false)
  | n + 1, sc, st, .rem i x => (match st with
    | .Expr (.Call (.Attribute (.Name y _) m apos) [e] [] cpos) _ => decide (m = "remove") && decide (K.N[i]? = some y) && visB sc y && okName y && (apos.endLine == cpos.line) && noStar e && chkA K n sc [e] [x]
    | _ => false)
  | n + 1, sc, st, .seti i k x => (match st with
    | .Assign [.Subscript (.Name y _) ke _] e _ => decide (K.N[i]? = some y) && visB sc y && okName y && notComp e && notSlice ke && chkE K n sc ke k && chkE K n sc e x
    | _ => false)
  | n + 1, sc, st, .stub => true
  | n + 1, sc, st, .selS .. => false
  | n + 1, sc, st, .put2 .. => false
  | n + 1, sc, st, .mkS i xs => (match st with
    | .Assign [.Name y py] (.Call (.Name f _) (a :: as) [] _) _ => K.ini && K.rt && decide (f = "Router") && glB sc f && chkTg K sc (.Name y py) (.one i) && (a :: as).all noStar && chkA K n sc (a :: as) xs
    | _ => false)
  | n + 1, sc, st, .setf i f x => (match st with
    | .Assign [.Attribute (.Name y _) z _] e _ => K.rt && decide (z = f.name) && slotB K sc i y && notComp e && chkE K n sc e x
    | _ => false)
  | n + 1, sc, st, .fapp i k => (match st with
    | .Expr (.Call (.Attribute (.Attribute (.Name y _) z _) m apos) [.Name w _] [] cpos) _ => K.rt && decide (z = "steps") && decide (m = "append") && slotB K sc i y && slotB K sc k w && (apos.endLine == cpos.line)
    | _ => false)
  | n + 1, sc, st, .dupS i j => false
  | n + 1, sc, st, .newLL .. => false
  | n + 1, sc, st, .llapp .. => false
  | n + 1, sc, st, .newD i b => (match st with
    | .Assign [.Name y py] (.Dict [] [] _) _ => chkTg K sc (.Name y py) (.one i)
    | _ => false)
  | n + 1, sc, st, .newD1 i k x => (match st with
    | .Assign [.Name y py] (.Dict [some a] [b] _) _ => chkTg K sc (.Name y py) (.one i) && chkE K n sc a k && chkE K n sc b x
    | _ => false)
  | n + 1, sc, st, .dput i k x => (match st with
    | .Assign [.Subscript (.Name y _) ke _] e _ => decide (K.N[i]? = some y) && visB sc y && okName y && notComp e && chkE K n sc ke k && chkE K n sc e x
    | _ => false)
  | n + 1, sc, st, .exp x => (match st with
    | .Expr e _ => notComp e && chkE K n sc e x
    | _ => false)
  | n + 1, sc, st, .ret x => (match st with
    | .Return (some e) _ => chkE K n sc e x
    | _ => false)
  | n + 1, sc, st, .ite x a b => (match st with
    | .If c sa sb _ => notIf c && chkE K n sc c x && chkSs K n sc sa a && chkSs K n sc sb b
    | _ => false)
  | n + 1, sc, st, .forS tg it b => (match st with
    | .For t iter body [] _ => chkTg K sc t tg && chkI K n sc t iter it && notSet iter && chkSs K n sc body b
    | _ => false)
  | n + 1, sc, st, .whl m x b => (match st with
    | .While c body [] _ => notIf c && chkE K n sc c x && chkSs K n sc body b
    | _ => false)
  | n + 1, sc, st, .brk => (match st with
    | .Break _ => true
    | _ => false)
  | n + 1, sc, st, .cnt => (match st with
    | .Continue _ => true
    | _ => false)
  | n + 1, sc, st, .pass => (match st with
    | .Pass _ => true
    | _ => false)
  | n + 1, sc, st, .raise c => (match st with
    | .Raise (some (.Call (.Name f _) [.Constant (.str _) _ _] [] _)) none _ => decide ((c, f) ∈ K.cls) && glB sc f && okName f
    | _ => false)
  | n + 1, sc, st, .ask i b => (match st with
    | .Try body [.ExceptHandler (some (.Name x _)) (some nm) [.Return (some (.Call (.Name f _) [.Name y _] [] _)) _] _] [] [] _ => K.wh && decide (x = "PathError") && glB sc x && decide (f = "_law_which") && glB sc f && decide (y = nm) && decide (K.N[i]? = some nm) && decide (sc.names.lookup nm = some .local) && okName nm && chkSs K n sc body b
    | _ => false)
  | n + 1, sc, st, .askO i b => (match st with
    | .Try body [.ExceptHandler (some (.Name z _)) none [.Return (some (.Tuple [.Constant (.str u) _ _, .Constant (.int v) _ _] _ _)) _] _, .ExceptHandler (some (.Name x _)) (some nm) [.Return (some (.Call (.Name f _) [.Name y _] [] _)) _] _] [] [] _ =>
      K.wh && decide (x = "PathError") && glB sc x && decide (f = "_law_which") && glB sc f && decide (y = nm) && decide (K.N[i]? = some nm) && decide (sc.names.lookup nm = some .local) && okName nm && chkSs K n sc body b && (K.wo && decide ((16, z) ∈ K.cls) && glB sc z && okName z && decide (u = "raised") && decide (v = 15))
    | _ => false)
def chkSs (K : Ck) : Nat → Scope → List Stmt → List Sm → Bool
  | 0, _, _, _ => false
  | n + 1, sc, ss, xs => (match ss, xs with
    | [], [] => true
    | s :: ss, x :: xs => (chkS K n sc s x && chkSs K n sc ss xs) || (chkSel K n sc (s :: ss) x || (chkP2 K n sc (s :: ss) x && chkSs K n sc ss.tail xs))
    | _, _ => false)
end
/-! ### soundness -/
/-- the call of _law_which with the exception at a, in slot i -/
def tHot (i : Nat) (a : Addr) (j : Nat) : TE := fun σ H Q => σ[i]? = some (some (.ref a)) ∧ ∀ H', Same H H' → ∀ r, H' r = none → Q (.ref r) (upd H' r (.tup [.str "raised", .int (j : Nat)]))
/-- what a try needs -/
def AskX (X : Cx) (ca : Nat → Addr) : Prop := ∃ pe : Addr, X.mg "PathError" = some (.ref pe) ∧ ∀ c, 1 ≤ c → c ≤ 15 → PySem.W.exmOne X.K (.ref (ca c)) (.ref pe) = some true ∧
  ∀ (a : Addr) (oe : Obj) (pn : List (Addr × Obj)), L2N.Zn (.ref (ca c)) none oe → (∃ vs, oe.data = .fields vs) → ∀ (i : Nat) (nm : Str) (q q2 pos : Pos), X.N[i]? = some nm → Vis X.env.scope nm → okName nm = true → Gl X "_law_which" →
    PE (X.suite a ((a, oe) :: pn)) (.Call (.Name "_law_which" q) [.Name nm q2] [] pos) (tHot i a (c - 1))
/-- NotOpen is number 16 -/
def OpnK (K : PySem.W.Frag) (ca : Nat → Addr) : Prop := PySem.W.exmOne K (.ref (ca 16)) (.ref (ca 16)) = some true ∧ ∀ c, 1 ≤ c → c ≤ 15 → PySem.W.exmOne K (.ref (ca c)) (.ref (ca 16)) = some false
structure GoodS (X : Cx) (K : Ck) (G : Gx) (F : Nat → FnS) (sc : Scope) (W : WX) : Prop where
  g : Good X K G F sc sc W
  kind : sc.kind = .function
  own : PassesOwn (model X.prog X.w) X.A X.env X.xe
  stk : X.stack = X.env :: X.outer
  frm : X.env.frame = some X.env.locals
  ask : K.wh = true → AskX X G.ca
  cls : ∀ p ∈ K.cls, X.mg p.2 = some (.ref (G.ca p.1)) ∧ PySem.W.excIn X.K (G.ca p.1) He.veBase "ValueError.__new__" = true ∧ PySem.W.keepIn X.K (.ref (G.ca p.1)) = true ∧ Raises X (.ref (G.ca p.1))
  opn : K.wo = true → OpnK X.K G.ca
section
variable {X : Cx} {K : Ck} {G : Gx} {F : Nat → FnS} {sc sc0 : Scope} {W : WX}
theorem PS.imp {s : Stmt} {t t' : TS} (h : PS X s t) (k : ∀ D σ H, t' D σ H → t D σ H) : PS X s t' := ⟨fun pins s σ H D I q => h.run pins s σ H D I (k D σ H q)⟩
theorem PSs.imp {s : List Stmt} {t t' : TS} (h : PSs X s t) (k : ∀ D σ H, t' D σ H → t D σ H) : PSs X s t' := ⟨fun pins s σ H D I q => h.run pins s σ H D I (k D σ H q)⟩
/-- the parts of a comprehension -/
theorem lc_parts {n : Nat} {elt : Expr} {gens : List Comprehension} {scope : Scope} {pos : Pos} {x : Ex} {t : Tg} {it : Ap.It} {cond : List Ex} (g : Good X K G F sc sc0 W) (h : chkE K (n + 1) sc (.ListComp elt gens scope pos) (.lc x t it cond) = true) :
    ∃ tg iter ifs, gens = [⟨tg, iter, ifs, 0⟩] ∧ PI X tg iter (tIt G F W it) ∧ BlkOk X.N X.env.scope scope (ownOf K t.slots) ∧ (ownOf K t.slots).map (·.2) = t.slots ∧
      (∀ (s : Shared) (H : Hp) (C : Addr) (cl : List (Str × Addr)) (fp : List Addr), PG (X.blk s H scope (compEnvC scope cl C X.env) fp) tg (gOf G.K t)) ∧ (∀ (s : Shared) (H : Hp) (C : Addr) (cl : List (Str × Addr)) (fp : List Addr), PTs (X.blk s H scope (compEnvC scope cl C X.env) fp) ifs (tCond G F cond)) ∧
      (∀ (s : Shared) (H : Hp) (C : Addr) (cl : List (Str × Addr)) (fp : List Addr), PE (X.blk s H scope (compEnvC scope cl C X.env) fp) elt (tEv G F Wf x)) ∧ (∀ y, foldedSetIterable iter X.env y = pure y) := by
  have ih := sound K G F n
  simp only [chkE] at h
  split at h
  · rename_i e1
    cases e1
    simp only [Bool.and_eq_true, decide_eq_true_eq] at h
    obtain ⟨⟨⟨⟨⟨⟨h1, h2⟩, h3⟩, h4⟩, h5⟩, h6⟩, h7⟩ := h
    have ok := blkOk_by h4
    rw [← g.n, ← g.sc] at ok
    exact ⟨_, _, _, rfl, ih.i g h1, ok, h5, fun s H C cl fp => tg_ok g.block.n g.block.nd g.block.calm g.block.k g.block.tgt h3, fun s H C cl fp => ih.c g.block h6, fun s H C cl fp => (ih.e g.block h7).1, folded h2⟩
  · cases h
theorem chkN_ok {n : Nat} : ∀ {e : Expr} {x : Ex}, Good X K G F sc sc0 W → chkN K n sc e x = true → PE X e (tNew G F W x) := by
  induction n with
  | zero => intro e x g h; simp [chkN] at h
  | succ n ih =>
    intro e x g h
    have snd := sound K G F n
    unfold chkN at h
    split at h
    · exact PE.imp (pe_lst (snd.a g h).1) fun σ H Q q => rn_lst q
    · simp only [Bool.and_eq_true, decide_eq_true_eq] at h
      obtain ⟨⟨⟨rfl, h2⟩, h3⟩, h4⟩ := h
      refine PE.imp (pe_callTy call_list_of (glB_ok g h2) (g.blt _ (by decide)) (by decide +kernel) (snd.a g h4).1 (by decide) (by decide) (star_cons h3) rfl) fun σ H Q q => ?_
      rw [g.k]
      exact rn_listOf q
    · obtain ⟨tg, iter, ifs, rfl, pi, ok, h5, pg, pt, pe, fo⟩ := lc_parts g h
      refine PE.imp (pe_lc (own := ownOf K _) g.calm g.nd pi ok pg pt pe fo) fun σ H Q q => ?_
      rw [h5]
      exact rn_lc q
    · simp only [Bool.and_eq_true] at h
      exact PE.imp (pe_ifExp ((snd.e g h.1.1.1).2 h.1.1.2) (ih g h.1.2) (ih g h.2)) fun σ H Q q => rn_ite q
    · cases h
/-- the name of a target -/
theorem tg_name {y : Str} {py : Pos} {i : Nat} (g : Good X K G F sc sc W) (h : chkTg K sc (.Name y py) (.one i) = true) : X.N[i]? = some y ∧ L2.Loc X.env.scope y ∧ (X.fn y = true ∨ X.env.scope.names.lookup y = some .local) := by
  simp only [chkTg, Bool.and_eq_true, decide_eq_true_eq] at h
  obtain ⟨l, f⟩ := g.tgt _ h.2
  exact ⟨by rw [g.n]; exact h.1, l, f⟩
theorem isSw_ok {y : Str} {py : Pos} {e : Expr} (h : isSw sc y py e = true) : ∃ elt gens scope lpos, e = .ListComp elt gens scope lpos ∧ sc.names.lookup y = some .local ∧ (py.line == lpos.line) = true ∧ (scope.names.any fun (n, k) => n == y && (k == .local || k == .cell)) = false := by
  unfold isSw at h
  split at h
  · unfold swB at h
    simp only [Bool.and_eq_true, Bool.not_eq_true'] at h
    refine ⟨_, _, _, _, rfl, ?_, h.1.2, h.2⟩
    have := h.1.1
    split at this
    · assumption
    · cases this
  · cases h
theorem swFree_ok (hk : sc.kind = .function) (hs : X.env.scope = sc) {t e : Expr} {l : Nat} (h : swFree sc t e = true) : swapsWithSole [t] e l X.env = pure false ∧ swappedStores [t] e X.env = pure none := by
  unfold swFree at h
  split at h
  · exact ⟨rfl, swNone_ok hs hk h⟩
  · rename_i y py elt gens scope lpos
    refine ⟨?_, rfl⟩
    have hb : X.env.blockKind = .function := by unfold Env.blockKind; rw [hs, hk]; rfl
    show swapsWith (.ListComp elt gens scope lpos) (some (.Name y py)) l X.env = pure false
    unfold swapsWith
    simp only [Bool.not_eq_true'] at h
    have ek : X.env.kindOf y = sc.names.lookup y := by unfold Env.kindOf; rw [hs]
    simp only [hb, ek]
    have : (ScopeKind.function == ScopeKind.function && sc.names.lookup y == some NameKind.local && py.line == lpos.line && !(scope.names.any fun (n, k) => n == y && (k == .local || k == .cell))) = false := by
      unfold swB at h
      have e1 : (sc.names.lookup y == some NameKind.local) = (match sc.names.lookup y with | some .local => true | _ => false) := by
        cases q : sc.names.lookup y with
        | none => rfl
        | some k => cases k <;> rfl
      rw [e1]
      simpa using h
    exact congrArg pure this
  · cases h
  · rename_i h1 h2 h3
    refine ⟨?_, ?_⟩
    · exact sw_comp h
    · cases t <;> cases e <;> first | rfl | (cases h; done) | exact (h1 _ _ _ _ _ _ rfl rfl).elim | exact (h2 _ _ _ _ _ _ rfl rfl).elim | exact (h3 _ _ _ _ _ _ rfl rfl).elim | exact (h1 _ _ rfl).elim | exact (h2 _ _ rfl).elim | exact (h3 _ _ rfl).elim
theorem aug_rule {op : Operator} {o : Op} (h : augO op o = true) : ∃ t, PIp X op t ∧ ∀ C : Fx, C.G = G → Prim2 C o t := by
  unfold augO at h
  split at h
  · refine ⟨_, ip_add, fun C hC r σ H a b d x y Q e ha hb hp q => ?_⟩
    match a, b, hp with
    | .int i, .int j, hp => cases hp; exact ⟨_, _, ha.int, hb.int, q.at (.int _)⟩
  · refine ⟨rI CMul fun i j => .int (i * j), iop_mul, fun C hC r σ H a b d x y Q e ha hb hp q => ?_⟩
    match a, b, hp with
    | .int i, .int j, hp =>
      have hp : (if smallI i || smallI j then some (PyData.int (i * j)) else none) = some d := hp
      split at hp
      · rename_i hs
        cases hp
        refine ⟨_, _, ha.int, hb.int, ?_, q.at (.int _)⟩
        rcases Bool.or_eq_true_iff.mp hs with h | h
        · exact .inl (smallI_ok h)
        · exact .inr (smallI_ok h)
      · cases hp
  · cases h
/-- x.m(e) -/
theorem met_ok {i : Nat} {x : Ex} {y m : Str} {id : String} {t : V → List V → Hp → VK → Prop} {e : Expr} {p apos cpos pos : Pos} {s : Sm} (g : Good X K G F sc sc0 W) (hm : MtM X id t) (slot : PySem.Slot "list" m id) (hty : typeOf (.builtin id) = pure (.type "method_descriptor"))
    (h2 : K.N[i]? = some y) (h3 : visB sc y = true) (h4 : okName y = true) (h5 : (apos.endLine == cpos.line) = true) (h6 : noStar e = true) (pa : PA X [e] (tEvs G F W [x])) (rs : ∀ D σ H, tRun G F W s D σ H → tMet G t i (tEvs G F W [x]) D σ H) :
    PS X (.Expr (.Call (.Attribute (.Name y p) m apos) [e] [] cpos) pos) (tRun G F W s) := by
  obtain ⟨o1, o2, o3⟩ := okName_ok h4
  refine PS.imp (ps_expr (pe_bm (X := X) PySem.F.plainAttrs_list slot hty hm (pe_var (i := i) (by rw [g.n]; exact h2) (by rw [g.sc]; exact visB_ok h3) o1 o2) pa rfl ?_ h5 (star_cons h6) rfl)) fun D σ H q => ?_
  · rw [star_cons h6]
    rfl
  · rw [g.k]
    exact rs D σ H q
end
end Ap

end
section
/-! x = [list(row) for row in g]; x[t[a]][t[b]] = v -/
namespace Ap
open PySem PySem.Spec PyProof.Rows L2

theorem rowsD_get : ∀ {ds : List D} {rs : List (List D)} {k : Nat} {d : D}, rowsD ds = some rs → ds[k]? = some d → ∃ row, rs[k]? = some row ∧ seqD d = some row
  | [], _, _, _, _, h => by simp at h
  | e :: ds, rs, k, d, h, hk => by
    simp only [rowsD, Option.bind_eq_some_iff, Option.map_eq_some_iff] at h
    obtain ⟨x, h1, y, h2, rfl⟩ := h
    cases k with
    | zero =>
      simp at hk
      subst hk
      exact ⟨x, rfl, h1⟩
    | succ k =>
      obtain ⟨row, h3, h4⟩ := rowsD_get (k := k) h2 (by simpa using hk)
      exact ⟨row, by simpa using h3, h4⟩
theorem rowsD_len : ∀ {ds : List D} {rs : List (List D)}, rowsD ds = some rs → rs.length = ds.length
  | [], rs, h => by simp [rowsD] at h; subst h; rfl
  | e :: ds, rs, h => by
    simp only [rowsD, Option.bind_eq_some_iff, Option.map_eq_some_iff] at h
    obtain ⟨x, h1, y, h2, rfl⟩ := h
    simp [rowsD_len h2]
/-- the lists made so far; M: what is changeable -/
structure Made (M : Addr → Prop) (H1 H2 : Hp) (l : Addr) (rs : List (List D)) (ps : List Addr) : Prop where
  same : Same H1 H2
  at_ : H2 l = some (.lst (ps.map V.ref))
  nd : ps.Nodup
  new : ∀ p ∈ ps, H1 p = none ∧ p ≠ l
  row : ∀ (k : Nat) (p : Addr), ps[k]? = some p → ∃ row us Fk, rs[k]? = some row ∧ H2 p = some (.lst us) ∧ Rps Fk row us ∧ Same Fk H2 ∧ Fk l = none ∧ (∀ q ∈ ps, Fk q = none) ∧ ∀ a, M a → Fk a = none
section
variable {M : Addr → Prop} {H1 H2 H3 : Hp} {l q : Addr} {rs : List (List D)} {ps : List Addr}
theorem Made.grow (m : Made M H1 H2 l rs ps) (s : Same H2 H3) : Made M H1 H3 l rs ps :=
  ⟨m.same.trans s, s _ _ m.at_, m.nd, m.new, fun k p hp => by
    obtain ⟨row, us, Fk, h1, h2, h3, h4, h5⟩ := m.row k p hp
    exact ⟨row, us, Fk, h1, s _ _ h2, h3, h4.trans s, h5⟩⟩
/-- one more -/
theorem Made.more {row : List D} {us : List V} {Fk : Hp} (m : Made M H1 H2 l rs ps) (hl : H1 l = none) (hq : H2 q = none) (hr : rs[ps.length]? = some row) (rp : Rps Fk row us) (f1 : Same Fk H2) (f2 : Fk l = none) (f3 : ∀ p ∈ ps, Fk p = none) (f4 : ∀ a, M a → Fk a = none) :
    Made M H1 (upd (upd H2 q (.lst us)) l (.lst (ps.map V.ref ++ [.ref q]))) l rs (ps ++ [q]) := by
  have nq : H1 q = none := by
    cases z : H1 q with
    | none => rfl
    | some o => rw [m.same _ _ z] at hq; cases hq
  have ql : q ≠ l := fun z => by rw [z, m.at_] at hq; cases hq
  have keep : ∀ {G : Hp}, Same G H2 → G l = none → Same G (upd (upd H2 q (.lst us)) l (.lst (ps.map V.ref ++ [.ref q]))) ∧ G q = none := fun {G} s n => by
    have gq : G q = none := by
      cases z : G q with
      | none => rfl
      | some o => rw [s _ _ z] at hq; cases hq
    refine ⟨fun a o h => ?_, gq⟩
    rw [upd_ne (ne_of_none h n), upd_ne (ne_of_none h gq)]
    exact s _ _ h
  have all : ∀ {G : Hp}, (∀ p ∈ ps, G p = none) → G q = none → ∀ p ∈ ps ++ [q], G p = none := fun {G} h h2 p hp => by
    rcases List.mem_append.mp hp with hp | hp
    · exact h p hp
    · rw [List.mem_singleton] at hp
      subst hp
      exact h2
  refine ⟨(keep m.same hl).1, by rw [upd_same]; simp, ?_, fun p hp => ?_, fun k p hp => ?_⟩
  · refine List.nodup_append.mpr ⟨m.nd, by simp, fun a ha b hb => ?_⟩
    rw [List.mem_singleton] at hb
    rintro rfl
    subst hb
    obtain ⟨k, hk⟩ := List.mem_iff_getElem?.mp ha
    obtain ⟨_, us', _, _, h2, _⟩ := m.row k _ hk
    rw [h2] at hq
    cases hq
  · rcases List.mem_append.mp hp with hp | hp
    · exact m.new p hp
    · rw [List.mem_singleton] at hp
      subst hp
      exact ⟨nq, ql⟩
  · by_cases hk : k < ps.length
    · rw [List.getElem?_append_left hk] at hp
      obtain ⟨row', us', Fk', h1, h2, h3, h4, h5, h6, h7⟩ := m.row k p hp
      have pl := (m.new p (List.mem_of_getElem? hp)).2
      have pq : p ≠ q := fun z => by rw [z, hq] at h2; cases h2
      obtain ⟨k1, k2⟩ := keep h4 h5
      exact ⟨row', us', Fk', h1, by rw [upd_ne pl, upd_ne pq]; exact h2, h3, k1, h5, all h6 k2, h7⟩
    · rw [List.getElem?_append_right (by omega)] at hp
      have : k = ps.length := by
        by_cases z : k - ps.length = 0
        · omega
        · rw [List.getElem?_eq_none (by simp; omega)] at hp
          cases hp
      subst this
      simp at hp
      subst hp
      obtain ⟨k1, k2⟩ := keep f1 f2
      exact ⟨row, us, Fk, hr, by rw [upd_ne ql, upd_same], rp, k1, f2, all f3 k2, f4⟩
/-- a row is changed -/
theorem Made.rps {m n : Nat} {p : Addr} {row : List D} {us : List V} {v : Int} {Fk : Hp} (hm : Made M H1 H2 l rs ps) (hl : ps.length = rs.length) (hp : ps[m]? = some p) (hr : rs[m]? = some row) (hu : H2 p = some (.lst us)) (rp : Rps Fk row us) (f1 : Same Fk H2) (f3 : ∀ q ∈ ps, Fk q = none) (f4 : ∀ a, M a → Fk a = none)
    (hM : ∀ a, M a → ∃ o, H1 a = some o) (hD : H1 l = none) : Rp (msk (upd H2 p (.lst (us.set n (.int v)))) M) (.list ((rs.set m (row.set n (.int v))).map .list)) (.ref l) := by
  obtain ⟨np, pl⟩ := hm.new p (List.mem_of_getElem? hp)
  have noM : ∀ a, H1 a = none → ¬ M a := fun a h z => by
    obtain ⟨o, ho⟩ := hM a z
    rw [h] at ho
    cases ho
  have up : ∀ {G : Hp}, Same G H2 → (∀ q ∈ ps, G q = none) → (∀ a, M a → G a = none) → Same G (msk (upd H2 p (.lst (us.set n (.int v)))) M) := fun {G} s n1 n2 a o h => by
    refine msk_some.mpr ⟨(fun z => by rw [n2 a z] at h; cases h), ?_⟩
    rw [upd_ne (ne_of_none h (n1 p (List.mem_of_getElem? hp)))]
    exact s _ _ h
  refine .lst (msk_some.mpr ⟨noM _ hD, by rw [upd_ne (Ne.symm pl)]; exact hm.at_⟩) ?_
  have key : ∀ (qs : List Addr) (ss : List (List D)), qs.length = ss.length → (∀ (k : Nat) (q : Addr), qs[k]? = some q → ∃ r2 us2, ss[k]? = some r2 ∧ msk (upd H2 p (.lst (us.set n (.int v)))) M q = some (.lst us2) ∧ Rps (msk (upd H2 p (.lst (us.set n (.int v)))) M) r2 us2) →
      Rps (msk (upd H2 p (.lst (us.set n (.int v)))) M) (ss.map .list) (qs.map V.ref) := by
    intro qs
    induction qs with
    | nil =>
      intro ss h _
      match ss, h with
      | [], _ => exact .nil
    | cons q qs ih =>
      intro ss h hk
      match ss, h with
      | s :: ss, h =>
        obtain ⟨r2, us2, h1, h2, h3⟩ := hk 0 q rfl
        cases h1
        refine .cons (.lst h2 h3) (ih ss (by simpa using h) fun k q' hq' => ?_)
        obtain ⟨r3, us3, h4, h5, h6⟩ := hk (k + 1) q' (by simpa using hq')
        exact ⟨r3, us3, by simpa using h4, h5, h6⟩
  refine key ps _ (by rw [List.length_set]; exact hl) fun k q hq => ?_
  obtain ⟨nq, ql⟩ := hm.new q (List.mem_of_getElem? hq)
  by_cases hkm : k = m
  · subst hkm
    rw [hp] at hq
    cases hq
    have hk : k < rs.length := (List.getElem?_eq_some_iff.mp hr).1
    exact ⟨_, _, List.getElem?_set_self hk, msk_some.mpr ⟨noM _ np, upd_same⟩, Rps.set (.int v) n (rp.mono (up f1 f3 f4))⟩
  · obtain ⟨r2, us2, F2, h1, h2, h3, h4, h5, h6, h7⟩ := hm.row k q hq
    have qp : q ≠ p := fun z => by
      subst z
      exact hkm ((List.getElem?_inj (List.getElem?_eq_some_iff.mp hq).1 hm.nd).mp (hq.trans hp.symm))
    exact ⟨r2, us2, by rw [List.getElem?_set_ne (Ne.symm hkm)]; exact h1, msk_some.mpr ⟨noM _ nq, by rw [upd_ne qp]; exact h2⟩, h3.mono (up h4 h6 h7)⟩
end

section
variable {X : Cx} {K : Ck} {G : Gx} {F : Nat → FnS} {sc sc0 : Scope} {W : WX}
theorem rdVar_ok {r : Env} {i : Nat} {v : Vl} {r' : Env} (h : rdVar r i = .ok v r') : r' = r := by
  unfold rdVar at h
  split at h <;> first | (cases h; rfl) | cases h
theorem rdVar_no {r : Env} {i c : Nat} {r' : Env} (h : rdVar r i = .exc c r') : False := by
  unfold rdVar at h
  split at h <;> cases h
theorem put2_run {r : Env} {i s j ri : Nat} {c1 c2 v : Int} : run F (.put2 i s j ri c1 c2 v) r = .bad ∨ ∃ dg u pd a b out r', isNil r i = true ∧ ri < r.length ∧ r[s]? = some (some (.dat dg)) ∧ rdVar r j = .ok u r ∧ view r u = some pd ∧ idxD pd (.int c1) = some (.int a) ∧ idxD pd (.int c2) = some (.int b) ∧
    put2D dg (.int a) (.int b) (.int v) = some out ∧ bindTg r (.one i) out = some r' ∧ run F (.put2 i s j ri c1 c2 v) r = .nx r' := by
  generalize hz : run F (.put2 i s j ri c1 c2 v) r = z
  rw [run] at hz
  by_cases h0 : (isNil r i && decide (ri < r.length)) = true
  · rw [if_pos h0] at hz
    rw [Bool.and_eq_true, decide_eq_true_eq] at h0
    cases h1 : rdVar r s with
    | bad => rw [h1] at hz; exact .inl hz.symm
    | exc c r1 => exact (rdVar_no h1).elim
    | ok a r1 =>
      have := rdVar_ok h1
      subst this
      rw [h1, R.st_ok] at hz
      cases a with
      | dat dg =>
        have hs : r1[s]? = some (some (.dat dg)) := by
          unfold rdVar at h1
          split at h1 <;> first | (cases h1; assumption) | cases h1
        have hz : ((rdVar r1 j).st fun u _ => (R.of (view r1 u) r1).st fun pd _ => (R.of (put2P dg pd c1 c2 v) r1).st fun z _ => RS.of (setS r1 i (.dat z))) = z := hz
        cases h2 : rdVar r1 j with
        | bad => rw [h2] at hz; exact .inl hz.symm
        | exc c r2 => exact (rdVar_no h2).elim
        | ok u r2 =>
          have := rdVar_ok h2
          subst this
          rw [h2, R.st_ok] at hz
          cases h3 : view r2 u with
          | none => rw [h3] at hz; exact .inl hz.symm
          | some pd =>
            rw [h3, R.of_some, R.st_ok] at hz
            cases h4 : put2P dg pd c1 c2 v with
            | none => rw [h4] at hz; exact .inl hz.symm
            | some out =>
              rw [h4, R.of_some, R.st_ok] at hz
              unfold put2P at h4
              obtain ⟨a, h5, h4⟩ := Option.bind_eq_some_iff.mp h4
              obtain ⟨b, h6, h4⟩ := Option.bind_eq_some_iff.mp h4
              have h4' := h4
              unfold put2D at h4'
              split at h4'
              · cases h7 : setS r2 i (.dat out) with
                | none => rw [h7] at hz; exact .inl hz.symm
                | some r' =>
                  rw [h7] at hz
                  exact .inr ⟨dg, u, pd, _, _, out, r', h0.1, h0.2, hs, rfl, h3, h5, h6, h4, h7, hz.symm⟩
              · cases h4'
      | own k => exact .inl hz.symm
      | fn k => exact .inl hz.symm
      | scr k => exact .inl hz.symm
  · rw [if_neg h0] at hz
    exact .inl hz.symm
theorem rdVar_val {C : Fx} {r : Env} {σ : St} {H : Hp} {j : Nat} {u : Vl} (e : EOk C r σ H) (h : rdVar r j = .ok u r) : ∃ v s, r[j]? = some (some s) ∧ σ[j]? = some (some v) ∧ VlOk C r σ H u v := by
  unfold rdVar at h
  split at h
  · rename_i d hs
    cases h
    obtain ⟨v, h1, h2⟩ := e.slot j _ hs
    exact ⟨v, _, hs, h1, h2⟩
  · rename_i d hs
    cases h
    obtain ⟨v, h1, h2⟩ := e.slot j _ hs
    exact ⟨v, _, hs, h1, h1⟩
  · rename_i d hs
    cases h
    obtain ⟨v, h1, h2⟩ := e.slot j _ hs
    exact ⟨v, _, hs, h1, h1⟩
  · rename_i d hs
    cases h
    obtain ⟨v, h1, h2⟩ := e.slot j _ hs
    exact ⟨v, _, hs, h1, h2⟩
  · rename_i d hs
    cases h
    obtain ⟨v, h1, h2⟩ := e.slot j _ hs
    exact ⟨v, _, hs, h1, h2⟩
  · cases h
theorem put2_ok (gS : GoodS X K G F sc W) {n : Nat} {ss : List Stmt} {x : Sm} {xs : List Sm} (h : chkP2 K n sc ss x = true) (hr : PSs X ss.tail.tail (tRuns G F W xs)) : PSs X ss (tRuns G F W (x :: xs)) := by
  have g := gS.g
  unfold chkP2 at h
  split at h
  · rename_i y py f fp z zp cp gens scope lpos ap y2 y2p t tp a ak akp tsp isp t2 t2p b bk bkp t2sp osp w wk wkp ap2 rest i s j ri c1 c2 v
    simp only [Bool.and_eq_true, decide_eq_true_eq] at h
    obtain ⟨⟨⟨⟨⟨⟨⟨⟨⟨⟨⟨⟨⟨⟨⟨⟨⟨h1, h2⟩, h3⟩, rfl⟩, h5⟩, h6⟩, h7⟩, h8⟩, rfl⟩, h10⟩, h11⟩, h12⟩, rfl⟩, h14⟩, h15⟩, rfl⟩, rfl⟩, rfl⟩ := h
    obtain ⟨elt, gens', scope', lpos', e0, z1, z2, z3⟩ := isSw_ok h1
    cases e0
    obtain ⟨o1, o2, o3⟩ := okName_ok h8
    obtain ⟨p1, p2, p3⟩ := okName_ok h10
    obtain ⟨q1, q2, q3⟩ := okName_ok h14
    obtain ⟨hN, _, _⟩ := tg_name g h3
    have hNj : X.N[j]? = some t2 := by rw [g.n]; exact h12
    have hvj : Vis X.env.scope t2 := by rw [g.sc]; exact visB_ok h15
    have hvi : Vis X.env.scope y2 := by rw [g.sc]; exact visB_ok h11
    cases n with
    | zero => simp [chkE] at h2
    | succ n =>
      obtain ⟨tg, iter, ifs, rfl, pi, ok, h5s, pg, pt, _, fo⟩ := lc_parts g h2
      have z1' : X.env.scope.names.lookup y2 = some .local := by rw [g.sc]; exact z1
      have pel : ∀ (s : Shared) (H : Hp) (C : Addr) (cl : List (Str × Addr)) (fp2 : List Addr), PE (X.blk s H scope (compEnvC scope cl C X.env) fp2) (.Call (.Name "list" fp) [.Name z zp] [] cp) (tCB (fun xs H Q => ∃ p ys, xs = [.ref p] ∧ (SqL X.K H p ys ∨ SqT X.K H p ys) ∧ ∀ l, H l = none → Q (.ref l) (upd H l (.lst ys))) (tCons (tVar ri) tNil)) := fun s H C cl fp2 =>
        pe_callTy call_list_of (glB_ok g.block h5) (g.block.blt _ (by decide)) (by decide +kernel) (pa_cons (pe_var (i := ri) (by rw [g.block.n]; exact h6) (by rw [g.block.sc]; exact visB_ok h7) o1 o2) pa_nil rfl) (by decide) (by decide) rfl rfl
      have P1 := ps_setLc (i := i) (own := ownOf K [ri]) (py := py) (spos := ap) g.calm g.nd hN z1' (sw_true (by rw [g.sc]; exact gS.kind) z1' z2 z3) pi ok pg pt pel fo
      have pt1 : ∀ (c : Int) (k : Nat) (p4 p5 p6 : Pos), PE X (.Subscript (.Name t2 p4) (.Constant (.int c) k p5) p6) (tOp (rIx X.K) (tVar j) (tC (.int c))) := fun c k p4 p5 p6 => pe_ix ix_seq (pe_var (i := j) hNj hvj q1 q2) pe_int (fun _ _ => rfl)
      have P2 := ps_asg (X := X) (pos := ap2) (e := .Constant (.int w) wk wkp) pe_int (pg_sub (pos := osp) (pe_ix (pos := isp) ix_seq (pe_var (i := i) (pos := y2p) hN hvi p1 p2) (pt1 a ak tp akp tsp) (fun _ _ => rfl)) (pt1 b bk t2p bkp t2sp) set_list (fun _ => rfl)) rfl rfl rfl
      refine PSs.imp (pss_cons P1 (pss_cons P2 hr)) fun D σ H q => ?_
      obtain ⟨C, rfl, r, e, q⟩ := q
      rw [runs] at q
      rcases put2_run (F := F) (r := r) (i := i) (s := s) (j := j) (ri := ri) (c1 := a) (c2 := b) (v := w) with hb | ⟨dg, u, pd, av, bv, out, r', n1, n2, n3, n4, n5, n6, n7, n8, n9, n10⟩
      · rw [hb] at q
        exact q.elim
      · rw [n10, RS.bind_nx] at q
        have n8' : ((seqD dg).bind fun ds => (rowsD ds).bind fun rs => (L2.ixN rs.length av).bind fun m => (rs[m]?).bind fun row => (L2.ixN row.length bv).map fun n => PyData.list ((rs.set m (row.set n (.int w))).map .list)) = some out := n8
        obtain ⟨ds, d1, n8'⟩ := Option.bind_eq_some_iff.mp n8'
        obtain ⟨rs, d2, n8'⟩ := Option.bind_eq_some_iff.mp n8'
        obtain ⟨m, d3, n8'⟩ := Option.bind_eq_some_iff.mp n8'
        obtain ⟨row, d4, n8'⟩ := Option.bind_eq_some_iff.mp n8'
        obtain ⟨nn, d5, rfl⟩ := Option.map_eq_some_iff.mp n8'
        have hev : evIt F (.seq (.var s)) r = .ok ds r := by
          have r1 : rdVar r s = .ok (.dat dg) r := by unfold rdVar; rw [n3]
          have r2 : itemsD dg = some ds := by
            unfold seqD at d1
            split at d1 <;> first | (cases d1; rfl) | cases d1
          rw [evIt, ev, r1, R.bind_ok]
          show R.of (itemsD dg) r = _
          rw [r2]
          rfl
        have hi : i < σ.length := by
          rw [← e.len]
          unfold isNil at n1
          split at n1
          · rename_i zz
            exact (List.getElem?_eq_some_iff.mp zz).1
          · cases n1
        refine ⟨C, rfl, r, e, ?_⟩
        rw [hev]
        intro J H1 e1 g1 fd hbl l hl
        rw [show List.map (fun x => x.2) (ownOf K [ri]) = [ri] from h5s]
        have live : ∀ a, Msk H1 C.os r σ a → ∃ o, H1 a = some o := fun a z => e1.live' z
        have hdl := rowsD_len d2
        refine ⟨fun k m2 H2 => ∃ ps : List Addr, k + m2 = ds.length ∧ ps.length = k ∧ Made (Msk H1 C.os r σ) H1 H2 l rs ps, ⟨ds.length, [], by omega, rfl, same_upd hl, upd_same, List.nodup_nil, (fun p hp => by cases hp), fun k p hp => by simp at hp⟩, ?_⟩
        rintro k m2 H2 ⟨ps, hkm, hpl, md⟩
        have feed := fd H2 fun a o z => md.same _ _ (msk_some.mp z).2
        by_cases hk : k < ds.length
        · have hget := List.getElem?_eq_getElem hk
          obtain ⟨row', hrow, hseq⟩ := rowsD_get d2 hget
          obtain ⟨go, yl⟩ := feed.1 k _ hget
          refine .inr ⟨go, fun H3 => ∃ ps : List Addr, k + 1 + (m2 - 1) = ds.length ∧ ps.length = k + 1 ∧ Made (Msk H1 C.os r σ) H1 H3 l rs ps, fun H3 h3 => ⟨m2 - 1, by omega, h3⟩, fun xv H3 yv => ?_⟩
          obtain ⟨s1, rpx⟩ := yl xv H3 yv
          obtain ⟨M2, hM2⟩ : ∃ M2 : Addr → Prop, M2 = fun a => Msk H1 C.os r σ a ∨ a = l ∨ a ∈ ps := ⟨_, rfl⟩
          have rp2 := rpx M2 (fun c zc => by
            rw [hM2] at zc
            rcases zc with zc | zc | zc
            · obtain ⟨o, ho⟩ := live c zc
              exact ⟨o, md.same _ _ ho⟩
            · rw [zc]
              exact ⟨_, md.at_⟩
            · obtain ⟨k', hk'⟩ := List.mem_iff_getElem?.mp zc
              obtain ⟨_, us, _, _, h2, _⟩ := md.row k' c hk'
              exact ⟨_, h2⟩) (fun c o zc => by
            obtain ⟨y1, y2⟩ := msk_some.mp zc
            refine msk_some.mpr ⟨fun y3 => ?_, md.same _ _ y2⟩
            rw [hM2] at y3
            rcases y3 with y3 | y3 | y3
            · exact y1 y3
            · rw [y3, hl] at y2
              cases y2
            · rw [(md.new c y3).1] at y2
              cases y2)
          have off : ∀ c, M2 c → msk H3 M2 c = none := fun c hc => by
            cases zc : msk H3 M2 c with
            | none => rfl
            | some o => exact absurd hc (msk_some.mp zc).1
          obtain ⟨kd, ad, vs, rfl, sq, rps⟩ := seqD_ok (K := X.K) rp2 hseq
          refine g_mono ?_ (g_only (tg := .one ri) (Q := fun σ' H'' => σ' = (wipe σ [ri]).set ri (some (.ref ad)) ∧ H'' = H3) ⟨rfl, rfl⟩)
          rintro σ2 H4 ⟨ho, rfl, rfl⟩
          refine ⟨only_wipe ho, ?_⟩
          rw [show tCond C.G F [] = tYes from rfl]
          unfold tYes
          dsimp only
          rw [if_pos (rfl : true = true)]
          refine ⟨.ref ad, List.getElem?_set_self (by rw [wipe_length, ← e1.len]; exact n2), ad, vs, rfl, ?_, fun lq hlq => ?_⟩
          · have sq1 := sq H4 msk_same
            cases kd with
            | true => exact .inl sq1
            | false => exact .inr sq1
          · have m1 := md.grow s1
            have lqn : lq ≠ l := fun zc => by rw [zc, m1.at_] at hlq; cases hlq
            refine ⟨ps.map V.ref, by rw [upd_ne (Ne.symm lqn)]; exact m1.at_, by rw [List.length_map]; omega, ps ++ [lq], by omega, by simp [hpl], ?_⟩
            exact m1.more hl hlq (by rw [hpl]; exact hrow) rps msk_same (off l (by rw [hM2]; exact .inr (.inl rfl))) (fun p hp => off p (by rw [hM2]; exact .inr (.inr hp))) fun c hc => off c (by rw [hM2]; exact .inl hc)
        · have hk' : k = ds.length := by omega
          refine .inl ⟨by rw [hk']; exact feed.2, ?_⟩
          obtain ⟨vj, sj, j1, j2, j3⟩ := rdVar_val (e1.grown md.same) n4
          have hij : i ≠ j := fun zc => by
            unfold isNil at n1
            rw [zc, j1] at n1
            cases n1
          have hσj : (σ.set i (some (V.ref l)))[j]? = some (some vj) := by rw [List.getElem?_set_ne hij]; exact j2
          have od2 := VlOk.od (e1.grown md.same) j3 n5
          refine ⟨.ref l, List.getElem?_set_self hi, vj, hσj, ?_⟩
          rw [g.k]
          refine p_idx r σ H2 pd (.int a) (.int av) vj (.int a) _ (e1.grown md.same) od2 (.inl (.int a)) n6 fun v1 H3 s3 rv1 => ?_
          cases rv1
          have md3 := md.grow s3
          have hpr : ps.length = rs.length := by omega
          have hm : m < ps.length := by
            rw [hpr]
            exact (List.getElem?_eq_some_iff.mp d4).1
          obtain ⟨p, hp⟩ : ∃ p, ps[m]? = some p := ⟨_, List.getElem?_eq_getElem hm⟩
          refine .inl ⟨l, _, av, .ref p, rfl, rfl, .of md3.at_, ?_, vj, hσj, ?_⟩
          · unfold atI
            rw [List.length_map, hpr, d3, Option.bind_some, List.getElem?_map, hp]
            rfl
          · have od3 : Od C r σ H3 pd vj := VlOk.od (e1.grown md3.same) (j3.grow ((e1.grown md.same).growS s3)) n5
            refine p_idx r σ H3 pd (.int b) (.int bv) vj (.int b) _ (e1.grown md3.same) od3 (.inl (.int b)) n7 fun v2 H4 s4 rv2 => ?_
            cases rv2
            have md4 := md3.grow s4
            obtain ⟨row2, us, Fk, k1, k2, k3, k4, k5, k6, k7⟩ := md4.row m p hp
            rw [d4] at k1
            cases k1
            refine ⟨p, us, bv, nn, rfl, rfl, k2, by rw [← k3.length]; exact d5, ?_⟩
            have rpo := md4.rps (n := nn) (v := w) hpr hp d4 k2 k3 k4 k6 k7 live hl
            have np := (md4.new p (List.mem_of_getElem? hp)).1
            have s5 : Same H1 (upd H4 p (.lst (us.set nn (.int w)))) := fun c o zc => by
              rw [upd_ne (ne_of_none zc np)]
              exact md4.same _ _ zc
            have fin : EOk C r' (σ.set i (some (.ref l))) (upd H4 p (.lst (us.set nn (.int w)))) ∧ Same (fz C r σ (upd H4 p (.lst (us.set nn (.int w))))) (fz C r' (σ.set i (some (.ref l))) (upd H4 p (.lst (us.set nn (.int w))))) :=
              bind_ok (tg := .one i) (Q := fun σ' H' => EOk C r' σ' H' ∧ Same (fz C r σ (upd H4 p (.lst (us.set nn (.int w))))) (fz C r' σ' H')) (e1.grown s5) n9 (rpo.mono (msk_le fun c z => (e1.mskS s5 c).mp z)) fun σ' e6 g6 => ⟨e6, g6⟩
            exact ⟨C, rfl, r', fin.1, PostS.after q ((g1.trans (e1.growS s5)).trans fin.2)⟩
  · cases h
end
end Ap

end
section
/-! Statements: soundness; a def's promise. -/
namespace Ap
open PySem PySem.Spec PyProof.Rows L2
section
variable {X : Cx} {K : Ck} {G : Gx} {F : Nat → FnS} {sc sc0 : Scope} {W : WX}
theorem sole_comp {env : PySem.Env} {t e : Expr} {l : Nat} (h : notComp e = true) : swapsWithSole [t] e l env = pure false := sw_comp h
/-- the suite: c is the class's number -/
def tHand (G : Gx) (i : Nat) (a : Addr) (cls : Value) (d : Option Addr) : TS := fun D σ H => ∃ c, 1 ≤ c ∧ c ≤ 15 ∧ cls = .ref (G.ca c) ∧ d = none ∧ tRet (tHot i a (c - 1)) D σ H
theorem rs_ask {i : Nat} {b : List Sm} {D : Ends} {σ : St} {H : Hp} {pe : Addr} {Z : Nat → Prop} (hc : ∀ c, 1 ≤ c → c ≤ 15 → PySem.W.exmOne X.K (.ref (G.ca c)) (.ref pe) = some true ∧ Z c) (q : tRun G F W (.ask i b) D σ H) : tRuns G F (wAs X.K (.ref pe) i (fun a cls d => tHand G i a cls d) W D) b D σ H := by
  obtain ⟨C, rfl, r, e, q⟩ := q
  rw [run] at q
  refine ⟨C, rfl, r, e, ?_⟩
  cases h : runs F b r with
  | nx r1 => rw [h] at q; exact q
  | ret d r1 => rw [h] at q; exact q
  | brk r1 => rw [h] at q; exact q
  | cnt r1 => rw [h] at q; exact q
  | bad => rw [h] at q; exact q.elim
  | exc c r1 =>
    rw [h] at q
    unfold askR at q
    simp only at q
    split at q
    · rename_i hcc
      intro σ1 H1 e1
      refine ⟨true, (hc c hcc.1 hcc.2.1).1, fun _ a ha => ⟨c, hcc.1, hcc.2.1, rfl, rfl, ?_⟩, fun z => by cases z⟩
      have hi : i < σ1.length := by rw [← e1.len]; exact hcc.2.2
      refine ⟨List.getElem?_set_self hi, fun H2 s2 p hp => ?_⟩
      have hs : Same H1 (upd H2 p (.tup [.str "raised", .int ((c - 1 : Nat) : Int)])) := s2.trans (same_upd hp)
      refine q (.ref p) σ1 _ (e1.grown hs) (.tup ⟨{ cls := .type "tuple", data := .plain }, rfl, msk_some.mpr ⟨fun z => ?_, by rw [labT_pl rfl]; exact upd_same⟩⟩ (.cons (.str _) (.cons (.int _) .nil)))
      obtain ⟨o, ho⟩ := (e1.grown s2).live p z
      rw [hp] at ho
      cases ho
    · exact q.elim
theorem rs_askO {i : Nat} {b : List Sm} {D : Ends} {σ : St} {H : Hp} {pe : Addr} {Z : Nat → Prop} (hc : ∀ c, 1 ≤ c → c ≤ 15 → PySem.W.exmOne X.K (.ref (G.ca c)) (.ref pe) = some true ∧ Z c) (op1 : PySem.W.exmOne X.K (.ref (G.ca 16)) (.ref (G.ca 16)) = some true)
    (op2 : ∀ c, 1 ≤ c → c ≤ 15 → PySem.W.exmOne X.K (.ref (G.ca c)) (.ref (G.ca 16)) = some false) (q : tRun G F W (.askO i b) D σ H) :
    tRuns G F (wOne X.K (.ref (G.ca 16)) (fun _ _ _ => tRet (tTupL (tCons (tC (.str "raised")) (tCons (tC (.int 15)) tNil)))) (wLast X.K (.ref pe) i (fun a cls d => tHand G i a cls d)) D) b D σ H := by
  obtain ⟨C, rfl, r, e, q⟩ := q
  rw [run] at q
  refine ⟨C, rfl, r, e, ?_⟩
  cases h : runs F b r with
  | nx r1 => rw [h] at q; exact q
  | ret d r1 => rw [h] at q; exact q
  | brk r1 => rw [h] at q; exact q
  | cnt r1 => rw [h] at q; exact q
  | bad => rw [h] at q; exact q.elim
  | exc c r1 =>
    rw [h] at q
    unfold askO at q
    simp only at q
    split at q
    · rename_i hcc
      subst hcc
      intro σ1 H1 e1
      refine ⟨true, op1, fun _ a ha => ⟨by decide, fun p o hp ho => ?_⟩, fun z => by cases z⟩
      refine q (.ref p) σ1 _ (e1.grown (same_upd hp)) (.tup ⟨o, ho, msk_some.mpr ⟨fun z => ?_, upd_same⟩⟩ (.cons (.str _) (.cons (.int _) .nil)))
      obtain ⟨o, ho⟩ := e1.live p z
      rw [hp] at ho
      cases ho
    · split at q
      · rename_i hcc
        intro σ1 H1 e1
        refine ⟨false, op2 c hcc.1 hcc.2.1, (fun z => by cases z), fun _ => ⟨(hc c hcc.1 hcc.2.1).1, fun a ha => ⟨c, hcc.1, hcc.2.1, rfl, rfl, ?_⟩⟩⟩
        have hi : i < σ1.length := by rw [← e1.len]; exact hcc.2.2
        refine ⟨List.getElem?_set_self hi, fun H2 s2 p hp => ?_⟩
        have hs : Same H1 (upd H2 p (.tup [.str "raised", .int ((c - 1 : Nat) : Int)])) := s2.trans (same_upd hp)
        refine q (.ref p) σ1 _ (e1.grown hs) (.tup ⟨{ cls := .type "tuple", data := .plain }, rfl, msk_some.mpr ⟨fun z => ?_, by rw [labT_pl rfl]; exact upd_same⟩⟩ (.cons (.str _) (.cons (.int _) .nil)))
        obtain ⟨o, ho⟩ := (e1.grown s2).live p z
        rw [hp] at ho
        cases ho
      · exact q.elim
theorem ret_post {C : Fx} {r : Env} {σ : St} {H F0 : Hp} {D : Ends} {x : R Vl} (q : PostS C W D F0 (x.st fun v r1 => retV r1 v)) : PostE C W r σ H D.rt x := by
  cases x with
  | bad => exact q.elim
  | exc c r1 => exact fun H' e' => q σ H' e'
  | ok x r1 =>
    rw [R.st_ok] at q
    intro v H' e' g' ok
    cases x with
    | dat d => exact q v σ H' e' (Rp.mono (msk_le fun a z => .inl z) ok)
    | own i =>
      unfold retV at q
      simp only at q
      split at q
      · rename_i ds hi
        obtain ⟨w, h1, a, rfl, vs, h2, h3⟩ := e'.slot i _ hi
        have ok : σ[i]? = some (some v) := ok
        rw [h1] at ok
        cases ok
        exact q _ σ H' e' (.lst (msk_some.mpr ⟨(e'.new i _ a hi (.of (by rw [hi]; rfl) h1)).2, h2⟩) (h3.mono (msk_le fun a z => .inl z)))
      · exact q.elim
    | fn k => exact q.elim
    | scr ns => exact q.elim
/-- a slot of which nothing is known is set -/
theorem EOk.nil {C : Fx} {r : Env} {σ : St} {H : Hp} {i : Nat} {v : V} (e : EOk C r σ H) (h : isNil r i = true) : EOk C r (σ.set i (some v)) H ∧ Same (fz C r σ H) (fz C r (σ.set i (some v)) H) := by
  have hi : r[i]? = some none := by
    unfold isNil at h
    split at h
    · assumption
    · cases h
  have get : ∀ j s, r[j]? = some (some s) → (σ.set i (some v))[j]? = σ[j]? := fun j s q => by
    have : i ≠ j := fun z => by rw [← z, hi] at q; cases q
    rw [List.getElem?_set_ne this]
  have mu : ∀ j a, MutAt H r (σ.set i (some v)) j a ↔ MutAt H r σ j a := fun j a => by
    constructor
    · rintro ⟨m1, m2⟩
      refine ⟨m1, ?_⟩
      have : i ≠ j := fun z => by rw [← z, hi] at m1; cases m1
      rw [List.getElem?_set_ne this] at m2
      exact m2
    · rintro ⟨m1, m2⟩
      refine ⟨m1, ?_⟩
      have : i ≠ j := fun z => by rw [← z, hi] at m1; cases m1
      rw [List.getElem?_set_ne this]
      exact m2
  have mk : ∀ a, Msk H C.os r (σ.set i (some v)) a ↔ Msk H C.os r σ a := fun a => by
    unfold Msk
    constructor
    · rintro (z | ⟨j, z⟩)
      · exact .inl z
      · exact .inr ⟨j, (mu j a).mp z⟩
    · rintro (z | ⟨j, z⟩)
      · exact .inl z
      · exact .inr ⟨j, (mu j a).mpr z⟩
  have sm : Same (fz C r σ H) (fz C r (σ.set i (some v)) H) := msk_le fun a z => (mk a).mp z
  refine ⟨⟨by rw [List.length_set]; exact e.len, fun j s q => ?_, fun j k a z1 z2 => e.inj j k a ((mu j a).mp z1) ((mu k a).mp z2), e.live, e.base, fun j o a q1 q2 => e.new j o a q1 ((mu j a).mp q2), fun j o a q1 q2 => e.bor j o a q1 (by rw [get j _ q1] at q2; exact q2), fun p hp => ?_⟩, sm⟩
  · obtain ⟨w, h1, h2⟩ := e.slot j s q
    exact ⟨w, by rw [get j s q]; exact h1, h2.mono sm fun _ _ _ _ _ _ z => z⟩
  · obtain ⟨h1, h2⟩ := e.bors p hp
    refine ⟨h1, ?_⟩
    have : i ≠ p.1 := fun z => by rw [← z, hi] at h1; cases h1
    rw [List.getElem?_set_ne this]
    exact h2
theorem selS_ok (gS : GoodS X K G F sc W) {n : Nat} {ss : List Stmt} {x : Sm} {xs : List Sm} (h : chkSel K n sc ss x = true) : PSs X ss (tRuns G F W (x :: xs)) := by
  have g := gS.g
  have snd := sound K G F n
  unfold chkSel at h
  split at h
  · rename_i y py fs lp ap y2 yp b bp a as cp rp rest i ks w es
    simp only [Bool.and_eq_true, decide_eq_true_eq] at h
    obtain ⟨⟨⟨⟨⟨⟨⟨⟨⟨rfl, h1⟩, h2⟩, h3⟩, h4⟩, h5⟩, h6⟩, h7⟩, h8⟩, h9⟩ := h
    obtain ⟨o1, o2, o3⟩ := okName_ok h2
    obtain ⟨hN, hl, hf⟩ := tg_name g h1
    have hs := h8
    simp only [List.all_cons, Bool.and_eq_true] at hs
    have hfn : ∀ k ∈ ks, ∃ x, FnGood X G F k x := fun k hk => by
      obtain ⟨x, hx⟩ := chkFns_mem h4 k hk
      exact ⟨x, g.fns _ hx⟩
    have no : PSs X rest (fun _ _ _ => False) := ⟨fun _ _ _ _ _ _ z => z.elim⟩
    have p1 := ps_asg (X := X) (pos := ap) (pe_lst (pos := lp) (pa_fns g h4)) (pg_name (i := i) (pos := py) g.nd hN hl hf) rfl rfl rfl
    have p2 := ps_ret (X := X) (pos := rp) (pe_callX (pos := cp) (W := W) hfn g.takes (pe_ix (pos := bp) ix_seq (pe_var (i := i) (pos := yp) hN (by rw [g.sc]; exact visB_ok h3) o1 o2) (snd.e g h7).1 (plainIx h6)) (snd.a g h9).1 rfl (star_cons hs.1) (star_back hs.2))
    refine PSs.imp (pss_cons p1 (pss_cons p2 no)) fun D σ H q => ?_
    obtain ⟨C, rfl, r, e, q⟩ := q
    rw [runs, run] at q
    split at q
    · rename_i hnil
      refine ⟨by rw [List.length_map]; exact Nat.le_trans h5 (by decide), fun p hp => ?_⟩
      have s0 : Same H (upd H p (.lst (ks.map fun k => V.ref (C.G.fa k)))) := same_upd hp
      obtain ⟨e1, g1⟩ := (e.grown s0).nil (v := .ref p) hnil
      have hi : i < σ.length := by
        rw [← e.len]
        unfold isNil at hnil
        split at hnil
        · rename_i z
          exact (List.getElem?_eq_some_iff.mp z).1
        · cases hnil
      have q1 : PostS C W D (fz C r σ H) ((ev F (.sel ks w es) r).st fun v r1 => retV r1 v) := by
        cases hz : (ev F (.sel ks w es) r).st fun v r1 => retV r1 v with
        | nx r1 =>
          exfalso
          cases hv : ev F (.sel ks w es) r with
          | ok v r1 =>
            rw [hv, R.st_ok] at hz
            unfold retV at hz
            split at hz
            · cases hz
            · split at hz <;> cases hz
            · cases hz
          | exc c r1 => rw [hv] at hz; cases hz
          | bad => rw [hv] at hz; cases hz
        | ret d r1 => rw [hz] at q; exact q
        | brk r1 => rw [hz] at q; exact q
        | cnt r1 => rw [hz] at q; exact q
        | exc c r1 => rw [hz] at q; exact q
        | bad => rw [hz] at q; exact q
      have q2 : PostE C W r (σ.set i (some (.ref p))) (upd H p (.lst (ks.map fun k => V.ref (C.G.fa k)))) D.rt (ev F (.sel ks w es) r) := ret_post q1
      rw [g.k]
      exact ⟨.ref p, List.getElem?_set_self hi, sel_core e1 (g1 p _ (e.fresh hp)) q2⟩
    · exact q.elim
  · cases h
theorem soundS (gS : GoodS X K G F sc W) (n : Nat) : (∀ {s : Stmt} {x : Sm}, chkS K n sc s x = true → PS X s (tRun G F W x)) ∧ (∀ {s : List Stmt} {x : List Sm}, chkSs K n sc s x = true → PSs X s (tRuns G F W x)) := by
  induction n generalizing X W with
  | zero => exact ⟨fun h => by simp [chkS] at h, fun h => by simp [chkSs] at h⟩
  | succ n ihA =>
    have ih := ihA gS
    have snd := sound K G F n
    have g := gS.g
    refine ⟨fun {s x} h => ?_, fun {s x} h => ?_⟩
    · cases x with
      | asg tg x =>
        simp only [chkS] at h
        split at h
        · rename_i t e pos
          simp only [Bool.and_eq_true] at h
          obtain ⟨⟨h1, h2⟩, h3⟩ := h
          have pg := tg_ok (G := G) g.n g.nd g.calm g.k g.tgt h1
          have plain : swFree sc t e = true → PS X (.Assign [t] e pos) (tRun G F W (.asg tg x)) := fun hf => by
            obtain ⟨f1, f2⟩ := swFree_ok (X := X) (l := pos.line) gS.kind g.sc hf
            refine PS.imp (ps_asg (snd.e g h2).1 pg f1 f2 ?_) fun D σ H q => rs_asg q
            unfold chkTg at h1
            split at h1
            · rfl
            · rfl
            · cases h1
          split at h3
          · rename_i y py
            rcases Bool.or_eq_true_iff.mp h3 with h3 | h3
            · obtain ⟨elt, gens, scope, lpos, rfl, z1, z2, z3⟩ := isSw_ok h3
              cases tg with
              | many is => simp [chkTg] at h1
              | one i =>
                obtain ⟨hN, _, _⟩ := tg_name g h1
                cases n with
                | zero => simp [chkE] at h2
                | succ n =>
                  cases x with
                  | lc x t it cond =>
                    obtain ⟨tg, iter, ifs, rfl, pi, ok, h5, pg, pt, pe, fo⟩ := lc_parts g h2
                    have z1' : X.env.scope.names.lookup y = some .local := by rw [g.sc]; exact z1
                    refine PS.imp (ps_setLc (i := i) (own := ownOf K t.slots) g.calm g.nd hN z1' (sw_true (by rw [g.sc]; exact gS.kind) z1' z2 z3) pi ok pg pt pe fo) fun D σ H q => ?_
                    have := rs_asg q
                    rw [h5]
                    exact rd_lc this
                  | stub => exact ⟨fun pins s σ H D I ⟨C, _, r, e, q⟩ => by rw [run, ev] at q; exact q.elim⟩
                  | prim o es =>
                    simp only [chkE] at h2
                    split at h2 <;> cases h2
                  | _ => simp [chkE] at h2
            · exact plain h3
          · exact plain h3
        · cases h
      | asgL is x =>
        simp only [chkS] at h
        split at h
        · simp only [Bool.and_eq_true] at h
          obtain ⟨h1, h2⟩ := h
          obtain ⟨t1, t2, t3⟩ := tgs_ok g.n g.nd g.tgt h1
          refine PS.imp (ps_asg (snd.e g h2).1 (pg_unl (X := X) (n := is.length) g.calm t1 t2 t3) rfl rfl rfl) fun D σ H q => ?_
          rw [g.k]
          exact rs_asgL q
        · cases h
      | new i x =>
        simp only [chkS] at h
        split at h
        · rename_i y py e pos
          simp only [Bool.and_eq_true] at h
          obtain ⟨⟨h1, h2⟩, h3⟩ := h
          obtain ⟨hN, hl, hf⟩ := tg_name g h1
          rcases Bool.or_eq_true_iff.mp h3 with h3 | h3
          · obtain ⟨elt, gens, scope, lpos, rfl, z1, z2, z3⟩ := isSw_ok h3
            cases n with
            | zero => simp [chkN] at h2
            | succ n =>
              cases x with
              | lc x t it cond =>
                have h2 : chkE K (n + 1) sc (.ListComp elt gens scope lpos) (.lc x t it cond) = true := h2
                obtain ⟨tg, iter, ifs, rfl, pi, ok, h5, pg, pt, pe, fo⟩ := lc_parts g h2
                have z1' : X.env.scope.names.lookup y = some .local := by rw [g.sc]; exact z1
                refine PS.imp (ps_setLc (i := i) (own := ownOf K _) g.calm g.nd hN z1' (sw_true (by rw [g.sc]; exact gS.kind) z1' z2 z3) pi ok pg pt pe fo) fun D σ H q => ?_
                have := rs_new q
                rw [h5]
                exact rn_lc this
              | _ => simp [chkN] at h2
          · obtain ⟨f1, f2⟩ := swFree_ok (X := X) (l := pos.line) gS.kind g.sc h3
            exact PS.imp (ps_asg (chkN_ok g h2) (pg_name (i := i) g.nd hN hl hf) f1 f2 rfl) fun D σ H q => rs_new q
        · cases h
      | par i j oi oj a b =>
        simp only [chkS] at h
        split at h
        · simp only [Bool.and_eq_true, decide_eq_true_eq] at h
          obtain ⟨⟨⟨⟨⟨⟨⟨⟨⟨h1, h2⟩, h3⟩, h4⟩, h5⟩, h6⟩, h7⟩, h8⟩, h9⟩, h10⟩ := h
          have px : ∀ {o : Bool} {e : Expr} {x : Ex}, (if o = true then chkN K n sc e x else chkE K n sc e x) = true → PE X e (tX G F W o x) := fun {o e x} h => by
            cases o with
            | true => exact chkN_ok g h
            | false => exact (snd.e g h).1
          have pa := px h7
          have pb := px h8
          refine PS.imp (ps_par g.calm g.nd (by rw [g.n]; exact h1) (by rw [g.n]; exact h2) h3 (by rw [g.sc]; exact h9) (by rw [g.sc]; exact h10) (pa_cons pa (pa_cons pb pa_nil (star_cons h6)) (star_cons h5)) (swSome_ok g.sc gS.kind h4) rfl) fun D σ H q => rs_par h3 q
        · cases h
      | par3 i j l a b c =>
        simp only [chkS] at h
        split at h
        · simp only [Bool.and_eq_true, decide_eq_true_eq] at h
          obtain ⟨⟨⟨⟨⟨⟨⟨⟨⟨⟨⟨⟨⟨h1, h2⟩, h3⟩, n1, n2, n3⟩, h4⟩, s1⟩, s2⟩, s3⟩, c1⟩, c2⟩, c3⟩, l1⟩, l2⟩, l3⟩ := h
          refine PS.imp (ps_par3 g.calm g.nd (by rw [g.n]; exact h1) (by rw [g.n]; exact h2) (by rw [g.n]; exact h3) n1 n2 n3 (by rw [g.sc]; exact l1) (by rw [g.sc]; exact l2) (by rw [g.sc]; exact l3) (pa_cons (snd.e g c1).1 (pa_cons (snd.e g c2).1 (pa_cons (snd.e g c3).1 pa_nil (star_cons s3)) (star_cons s2)) (star_cons s1)) (swSome3_ok g.sc gS.kind h4) rfl) fun D σ H q => rs_par3 q
        · cases h
      | aug o i x =>
        simp only [chkS] at h
        split at h
        · simp only [Bool.and_eq_true, decide_eq_true_eq] at h
          obtain ⟨⟨⟨h1, h2⟩, h3⟩, h4⟩ := h
          obtain ⟨t, r, p⟩ := aug_rule (X := X) (G := G) h3
          obtain ⟨l, f⟩ := g.tgt _ h2
          exact PS.imp (ps_aug (i := i) g.nd (by rw [g.n]; exact h1) l (snd.e g h4).1 r f) fun D σ H q => rs_aug p q
        · cases h
      | app i x =>
        simp only [chkS] at h
        split at h
        · simp only [Bool.and_eq_true, decide_eq_true_eq] at h
          obtain ⟨⟨⟨⟨⟨⟨rfl, h2⟩, h3⟩, h4⟩, h5⟩, h6⟩, h7⟩ := h
          exact met_ok g mt_append PySem.F.slot_list_append PySem.F.type_list_append h2 h3 h4 h5 h6 (snd.a g h7).1 fun D σ H q => rs_app q
        · cases h
      | ext i x =>
        simp only [chkS] at h
        split at h
        · simp only [Bool.and_eq_true, decide_eq_true_eq] at h
          obtain ⟨⟨⟨⟨⟨⟨rfl, h2⟩, h3⟩, h4⟩, h5⟩, h6⟩, h7⟩ := h
          exact met_ok g mt_extend PySem.F.slot_list_extend PySem.F.type_list_extend h2 h3 h4 h5 h6 (snd.a g h7).1 fun D σ H q => rs_ext q
        · cases h
      | rem i x =>
        simp only [chkS] at h
        split at h
        · simp only [Bool.and_eq_true, decide_eq_true_eq] at h
          obtain ⟨⟨⟨⟨⟨⟨rfl, h2⟩, h3⟩, h4⟩, h5⟩, h6⟩, h7⟩ := h
          have mt : MtM X "list.remove" (rRemD G.K) := by rw [← g.k]; exact mt_remD g.hu
          exact met_ok g mt PySem.F.slot_list_remove PySem.F.type_list_remove h2 h3 h4 h5 h6 (snd.a g h7).1 fun D σ H q => rs_rem q
        · cases h
      | seti i k x =>
        simp only [chkS] at h
        split at h
        · simp only [Bool.and_eq_true, decide_eq_true_eq] at h
          obtain ⟨⟨⟨⟨⟨⟨h1, h2⟩, h3⟩, h4⟩, h5⟩, h6⟩, h7⟩ := h
          obtain ⟨o1, o2, o3⟩ := okName_ok h3
          refine PS.imp (ps_asg (snd.e g h7).1 (pg_sub (pe_var (i := i) (by rw [g.n]; exact h1) (by rw [g.sc]; exact visB_ok h2) o1 o2) (snd.e g h6).1 set_list ?_) ?_ ?_ rfl) fun D σ H q => rs_seti q
          · intro v
            rename_i ke _ _ _
            cases ke <;> first | rfl | (cases h5; done)
          · exact sole_comp h4
          · rename_i e _
            cases e <;> first | rfl | (cases h4; done)
        · cases h
      | stub => exact ⟨fun pins s σ H D I ⟨C, _, r, e, q⟩ => by rw [run] at q; exact q.elim⟩
      | selS i ks w es => simp [chkS] at h
      | put2 i s j ri c1 c2 v => simp [chkS] at h
      | mkS i xs =>
        simp only [chkS] at h
        split at h
        · simp only [Bool.and_eq_true, decide_eq_true_eq] at h
          obtain ⟨⟨⟨⟨⟨⟨h1, h2⟩, rfl⟩, h3⟩, h4⟩, h5⟩, h6⟩ := h
          obtain ⟨hN, hl, hf⟩ := tg_name g h4
          have hs := h5
          simp only [List.all_cons, Bool.and_eq_true] at hs
          exact PS.imp (ps_asg (pe_mkI (G := G) (F := F) (g.ini h1) (glB_ok g h3) (g.rt h2).2 g.takes (snd.a g h6).1 (by decide) (star_cons hs.1) (star_back hs.2)) (pg_name (i := i) g.nd hN hl hf) rfl rfl rfl) fun D σ H q => rs_mkS q
        · cases h
      | setf i f x =>
        simp only [chkS] at h
        split at h
        · simp only [Bool.and_eq_true, decide_eq_true_eq] at h
          obtain ⟨⟨⟨⟨h1, rfl⟩, h3⟩, h4⟩, h5⟩ := h
          exact PS.imp (ps_fld (slotB_pe g h3) (snd.e g h5).1 (sw_comp h4)) fun D σ H q => by
            rw [g.k]
            exact rs_setf (F := F) (W := W) (by rw [← g.k]; exact (g.rt h1).1) q
        · cases h
      | fapp i k =>
        simp only [chkS] at h
        split at h
        · simp only [Bool.and_eq_true, decide_eq_true_eq] at h
          obtain ⟨⟨⟨⟨⟨h1, rfl⟩, rfl⟩, h3⟩, h4⟩, h5⟩ := h
          exact PS.imp (ps_expr (pe_bm (X := X) PySem.F.plainAttrs_list PySem.F.slot_list_append PySem.F.type_list_append mt_append (pe_fld (slotB_pe g h3) rfl) (pa_cons (slotB_pe g h4) pa_nil rfl) rfl rfl h5 rfl rfl)) fun D σ H q => by
            rw [g.k]
            exact rs_fapp (F := F) (W := W) (by rw [← g.k]; exact (g.rt h1).1) q
        · cases h
      | dupS i j => simp [chkS] at h
      | newLL i j s ri => simp [chkS] at h
      | llapp i k p => simp [chkS] at h
      | newD i b =>
        simp only [chkS] at h
        split at h
        · obtain ⟨hN, hl, hf⟩ := tg_name g h
          cases b with
          | true => exact PS.imp (ps_asg pe_dnewK (pg_name (i := i) g.nd hN hl hf) rfl rfl rfl) fun D σ H q => rs_newD q
          | false => exact PS.imp (ps_asg pe_dnewT (pg_name (i := i) g.nd hN hl hf) rfl rfl rfl) fun D σ H q => rs_newD q
        · cases h
      | newD1 i k x =>
        simp only [chkS] at h
        split at h
        · simp only [Bool.and_eq_true] at h
          obtain ⟨⟨h1, h2⟩, h3⟩ := h
          obtain ⟨hN, hl, hf⟩ := tg_name g h1
          have hu := g.hu
          exact PS.imp (ps_asg (pe_disp1 (by omega) (snd.e g h2).1 (snd.e g h3).1) (pg_name (i := i) g.nd hN hl hf) rfl rfl rfl) fun D σ H q => rs_newD1 q
        · cases h
      | dput i k x =>
        simp only [chkS] at h
        split at h
        · simp only [Bool.and_eq_true, decide_eq_true_eq] at h
          obtain ⟨⟨⟨⟨⟨h1, h2⟩, h3⟩, h4⟩, h5⟩, h6⟩ := h
          obtain ⟨o1, o2, o3⟩ := okName_ok h3
          have hu := g.hu
          exact PS.imp (ps_dput (by omega) (pe_var (i := i) (by rw [g.n]; exact h1) (by rw [g.sc]; exact visB_ok h2) o1 o2) (snd.e g h5).1 (snd.e g h6).1 (sw_comp h4)) fun D σ H q => rs_dput q
        · cases h
      | exp x =>
        simp only [chkS] at h
        split at h
        · simp only [Bool.and_eq_true] at h
          exact PS.imp (ps_expr (snd.e g h.2).1 (sw_comp h.1)) fun D σ H q => rs_exp q
        · cases h
      | ret x =>
        simp only [chkS] at h
        split at h
        · exact PS.imp (ps_ret (snd.e g h).1) fun D σ H q => rs_ret q
        · cases h
      | ite x a b =>
        simp only [chkS] at h
        split at h
        · simp only [Bool.and_eq_true] at h
          exact PS.imp (ps_if ((snd.e g h.1.1.2).2 h.1.1.1) (ih.2 h.1.2) (ih.2 h.2)) fun D σ H q => rs_ite q
        · cases h
      | forS tg it b =>
        simp only [chkS] at h
        split at h
        · simp only [Bool.and_eq_true] at h
          exact PS.imp (ps_for gS.own g.calm (snd.i g h.1.1.2) (tg_ok (G := G) g.n g.nd g.calm g.k g.tgt h.1.1.1) (ih.2 h.2) (folded h.1.2)) fun D σ H q => rs_for q
        · cases h
      | whl m x b =>
        simp only [chkS] at h
        split at h
        · simp only [Bool.and_eq_true] at h
          exact PS.imp (ps_while gS.own ((snd.e g h.1.2).2 h.1.1) (ih.2 h.2)) fun D σ H q => rs_whl q
        · cases h
      | brk =>
        simp only [chkS] at h
        split at h
        · exact PS.imp ps_break fun D σ H q => rs_brk q
        · cases h
      | cnt =>
        simp only [chkS] at h
        split at h
        · exact PS.imp ps_continue fun D σ H q => rs_cnt q
        · cases h
      | pass =>
        simp only [chkS] at h
        split at h
        · exact PS.imp ps_pass fun D σ H q => rs_pass q
        · cases h
      | raise c =>
        simp only [chkS] at h
        split at h
        · simp only [Bool.and_eq_true, decide_eq_true_eq] at h
          obtain ⟨⟨h1, h2⟩, h3⟩ := h
          obtain ⟨o1, o2, o3⟩ := okName_ok h3
          obtain ⟨m1, m2, m3, m4⟩ := gS.cls _ h1
          exact PS.imp (L2N.ps_raise g.calm g.takes (L2N.pmk_own PySem.F.excBase_ValueError m2 m1 m3 m4 (glB_ok g h2) o1)) fun D σ H q => rs_raise (G := G) (F := F) q
        · cases h
      | ask i b =>
        simp only [chkS] at h
        split at h
        · rename_i body x xp nm f fp y yp cp rp hp tp
          simp only [Bool.and_eq_true, decide_eq_true_eq] at h
          obtain ⟨⟨⟨⟨⟨⟨⟨⟨⟨h0, rfl⟩, h2⟩, rfl⟩, h4⟩, rfl⟩, h6⟩, h7⟩, h8⟩, h9⟩ := h
          obtain ⟨pe, hpe, hc⟩ := gS.ask h0
          have hN : X.N[i]? = some y := by rw [g.n]; exact h6
          have hv : Vis X.env.scope y := by rw [g.sc]; exact .inl h7
          have good : ∀ (W' : WX) (pn : List (Addr × Obj)) (xe : Value → Shared → Prop), L2N.Takes (X.tr pn xe) W' → PassesOwn (model X.prog X.w) X.A X.env xe → GoodS (X.tr pn xe) K G F sc W' := fun W' pn xe tk po =>
            ⟨⟨g.n, g.nd, g.sc, g.calm, g.k, tk, g.hu, g.blt, g.gi, g.gs, g.fns, g.mks, g.rt, g.ms, g.ini, g.tgt⟩, gS.kind, po, gS.stk, gS.frm, gS.ask, gS.cls, gS.opn⟩
          refine PS.imp (L2N.ps_try_as (i := i) (c := .ref pe) (tb := fun W' => tRuns G F W' b) (ts := fun a cls d => tHand G i a cls d) (Wout := W) gS.stk gS.frm g.nd hN (by show X.env.scope.names.lookup y = _; rw [g.sc]; exact h7) ⟨glB_ok g h2, by decide, .inl hpe⟩ g.takes
            (fun W' pn xe tk po => (ihA (good W' pn xe tk po)).2 h9) fun a oe cls d pn hz hd => ?_) fun D σ H q => rs_ask (X := X) hc q
          refine ⟨fun pins s σ H D I q => ?_⟩
          obtain ⟨c, c1, c2, rfl, rfl, q⟩ := q
          exact (pss_one (ps_ret ((hc c c1 c2).2 a oe pn hz hd i y fp yp cp hN hv h8 (glB_ok g h4)))).run pins s σ H D I q
        · cases h
      | askO i b =>
        simp only [chkS] at h
        split at h
        · rename_i body z zp u up1 up2 v vp1 vp2 tk tpos rpos hpos x xp nm f fp y yp cp rp hp tp
          simp only [Bool.and_eq_true, decide_eq_true_eq] at h
          obtain ⟨⟨⟨⟨⟨⟨⟨⟨⟨⟨h0, rfl⟩, h2⟩, rfl⟩, h4⟩, rfl⟩, h6⟩, h7⟩, h8⟩, h9⟩, ⟨⟨⟨⟨k1, k2⟩, k3⟩, k4⟩, rfl⟩, rfl⟩ := h
          obtain ⟨pe, hpe, hc⟩ := gS.ask h0
          obtain ⟨op1, op2⟩ := gS.opn k1
          obtain ⟨o1, o2, o3⟩ := okName_ok k4
          have hN : X.N[i]? = some y := by rw [g.n]; exact h6
          have hv : Vis X.env.scope y := by rw [g.sc]; exact .inl h7
          have good : ∀ (W' : WX) (pn : List (Addr × Obj)) (xe : Value → Shared → Prop), L2N.Takes (X.tr pn xe) W' → PassesOwn (model X.prog X.w) X.A X.env xe → GoodS (X.tr pn xe) K G F sc W' := fun W' pn xe tk po =>
            ⟨⟨g.n, g.nd, g.sc, g.calm, g.k, tk, g.hu, g.blt, g.gi, g.gs, g.fns, g.mks, g.rt, g.ms, g.ini, g.tgt⟩, gS.kind, po, gS.stk, gS.frm, gS.ask, gS.cls, gS.opn⟩
          refine PS.imp (ps_try_cat (tb := fun W' => tRuns G F W' b) gS.stk gS.frm (fun W' pn xe tk po => (ihA (good W' pn xe tk po)).2 h9)
            (cat_plain (c := .ref (G.ca 16)) (ts := fun _ _ _ => tRet (tTupL (tCons (tC (.str "raised")) (tCons (tC (.int 15)) tNil)))) gS.frm ⟨glB_ok g k3, o1, .inl (gS.cls _ k2).1⟩ (fun a oe cls d pn hz hd => pss_one (ps_ret (pe_tupL (pa_cons pe_str (pa_cons pe_int pa_nil rfl) rfl))))
              (cat_last (i := i) (c := .ref pe) (ts := fun a cls d => tHand G i a cls d) gS.frm g.nd hN (by show X.env.scope.names.lookup y = _; rw [g.sc]; exact h7) ⟨glB_ok g h2, by decide, .inl hpe⟩ fun a oe cls d pn hz hd => ?_))) fun D σ H q => rs_askO (X := X) hc op1 op2 q
          refine ⟨fun pins s σ H D I q => ?_⟩
          obtain ⟨c, c1, c2, rfl, rfl, q⟩ := q
          exact (pss_one (ps_ret ((hc c c1 c2).2 a oe pn hz hd i y fp yp cp hN hv h8 (glB_ok g h4)))).run pins s σ H D I q
        · cases h
    · unfold chkSs at h
      split at h
      · exact PSs.imp pss_nil fun D σ H q => rs_nil q
      · rcases Bool.or_eq_true_iff.mp h with h | h
        · simp only [Bool.and_eq_true] at h
          exact PSs.imp (pss_cons (ih.1 h.1) (ih.2 h.2)) fun D σ H q => rs_cons q
        · rcases Bool.or_eq_true_iff.mp h with h | h
          · exact selS_ok gS h
          · rw [Bool.and_eq_true] at h
            exact put2_ok gS h.1 (ih.2 h.2)
      · cases h
end
end Ap

end
section
/-! A def of the program keeps the promise of its core term. -/
namespace Ap
open PySem PySem.Spec PyProof.Rows L2

/-- what the module holds -/
structure Mod (P : Program) (w : World) (K : PySem.W.Frag) (mg : Str → Option Value) (base : Heap) (G : Gx) (F : Nat → FnS) (C : Ck) (k : Nat) : Prop where
  gk : G.K = K
  blt : ∀ x ∈ blts, mg x = none
  gi : ∀ p ∈ C.gi, ∃ t, mg p.1 = some (.int p.2 t)
  gs : ∀ p ∈ C.gs, ∃ t, mg p.1 = some (.str p.2 t)
  cls : ∀ p ∈ C.cls, mg p.2 = some (.ref (G.ca p.1)) ∧ PySem.W.excIn K (G.ca p.1) He.veBase "ValueError.__new__" = true ∧ PySem.W.keepIn K (.ref (G.ca p.1)) = true ∧ PySem.W.subIn K (.ref (G.ca p.1)) (.type "BaseException") = some true ∧ PySem.W.typeIn K (.ref (G.ca p.1)) = some (.type "type")
  ask : C.wh = true → ∀ X : Cx, X.prog = P → X.w = w → X.K = K → X.mg = mg → X.base = base → Room k X.A → AskX X G.ca
  opn : C.wo = true → OpnK K G.ca
  mks : ∀ p ∈ C.mks, ∃ (Cl f : Addr) (fd : FuncData) (ps : List Str) (j : Nat), mg p.2 = some (.ref Cl) ∧ Mk K Cl f ∧ Binds K fd ps [] ∧ FnOk P w K mg base (L2N.CX P w) j f fd ps (spX K G.ca (F p.1)) ∧ j + 1 ≤ k
  rt : C.rt = true → RtK K (G.fa 900) ∧ mg "Router" = some (.ref (G.fa 900))
  ms : ∀ p ∈ C.ms, ∃ (f : Addr) (fd : FuncData) (ps : List Str) (j : Nat), Meth K (G.fa 900) p.2 f ∧ Binds K fd ps [] ∧ FnOk P w K mg base (L2N.CX P w) j f fd ps (spOf K G.fa G.ca (F p.1)) ∧ j + 3 ≤ k
  ini : C.ini = true → ∃ (f : Addr) (fd : FuncData) (ps : List Str) (j : Nat), Mk K (G.fa 900) f ∧ Binds K fd ps [] ∧ FnOk P w K mg base (L2N.CX P w) j f fd ps (spI G (F 900)) ∧ j + 1 ≤ k
  fns : ∀ p ∈ C.fns, ∃ fd ps, mg p.2 = some (.ref (G.fa p.1)) ∧ PySem.W.keepIn K (.ref (G.fa p.1)) = true ∧ Binds K fd ps [] ∧ FnOk P w K mg base (L2N.CX P w) k (G.fa p.1) fd ps (spOf K G.fa G.ca (F p.1))

def fnScopeB (N ps : List Str) (sc : Scope) : Bool := decide (sc.kind = .function) && !sc.isCoroutine && !sc.isGenerator && decide N.Nodup && decide (N.take ps.length = ps) && ps.all (fun x => locB sc x) && sc.names.all (fun y => match y.2 with | .free => false | _ => true)
theorem fnScopeB_ok {N ps : List Str} {sc : Scope} (h : fnScopeB N ps sc = true) : FnScope N ps sc := by
  unfold fnScopeB at h
  simp only [Bool.and_eq_true, decide_eq_true_eq, Bool.not_eq_true', List.all_eq_true] at h
  obtain ⟨⟨⟨⟨⟨⟨h1, h2⟩, h3⟩, h4⟩, h5⟩, h6⟩, h7⟩ := h
  refine ⟨h1, h2, h3, h4, h5, fun x hx => ?_, fun y hy z => ?_⟩
  · have := h6 x hx
    unfold locB at this
    split at this
    · exact .inl (by assumption)
    · exact .inr (by assumption)
    · cases this
  · have := h7 y hy
    rw [z] at this
    cases this

section
variable {P : Program} {w : World} {K : PySem.W.Frag} {mg : Str → Option Value} {base : Heap} {G : Gx} {F : Nat → FnS} {C : Ck} {k : Nat} {x qual : Str} {params : Arguments} {body : List Stmt} {scope : Scope} {f : Addr} {fd : FuncData} {ps : List Str}
theorem good_of (M : Mod P w K mg base G F C k) (S : FnScope C.N ps scope) {cdv : Value} {A : Around} {outer : List PySem.Env} {s : Shared} {H : Hp} {E : XK} (hr : Room k (A.deeper (envOfC qual scope s.heap.objs.size f cdv))) :
    GoodS (cxOf (L2N.CX P w) P w K mg base C.N qual scope f cdv A outer s H E) C G F scope (fun cls d _ H => E cls d H) := by
  refine ⟨⟨rfl, S.nd, rfl, rfl, M.gk.symm, L2N.takes_of rfl rfl rfl rfl, ?_, M.blt, M.gi, M.gs, fun p hp => ?_, fun p hp => ?_, M.rt, fun p hp => ?_, fun hi => ?_, fun y hy => ?_⟩, S.kind, passes_of rfl, rfl, rfl, fun hw => M.ask hw _ rfl rfl rfl rfl rfl hr, fun p hp => ?_, M.opn⟩
  · have := hr.un
    show (A.deeper (envOfC qual scope s.heap.objs.size f cdv)).units + 65 < cLine
    omega
  · obtain ⟨fd, ps, z1, z2, z3, z4⟩ := M.fns p hp
    refine ⟨fd, ps, k, z1, z2, z3, ?_, hr⟩
    rw [M.gk]
    exact z4
  · obtain ⟨Cl, f, fd, ps, j, z1, z2, z3, z4, z5⟩ := M.mks p hp
    refine ⟨Cl, f, fd, ps, j, z1, z2, z3, ?_, hr.mono z5⟩
    rw [M.gk]
    exact z4
  · obtain ⟨f, fd, ps, j, z1, z2, z3, z4⟩ := M.ms p hp
    refine ⟨f, fd, ps, j, z1, z2, ?_, hr.mono z4⟩
    rw [M.gk]
    exact z3
  · obtain ⟨f, fd, ps, j, z1, z2, z3, z4⟩ := M.ini hi
    exact ⟨f, fd, ps, j, z1, z2, z3, hr.mono z4⟩
  · refine ⟨?_, .inl rfl⟩
    unfold locB at hy
    split at hy
    · exact .inl (by assumption)
    · exact .inr (by assumption)
    · cases hy
  · obtain ⟨z1, z2, z3, z4, z5⟩ := M.cls p hp
    exact ⟨z1, z2, z3, raises_own z4 z5⟩
theorem def_ok (M : Mod P w K mg base G F C k) (FD : FunD K x qual params body scope [] [] f fd) (hs : fnScopeB C.N ps scope = true) {n : Nat} {b : List Sm} (h : chkSs C n scope body b = true) :
    FnOk P w K mg base (L2N.CX P w) (k + 1) f fd ps (spOf K G.fa G.ca (defR F ps.length C.N.length b)) := by
  have S := fnScopeB_ok hs
  refine FD.ok S (fun vs H Q E q => ?_) (fun cdv A outer s H vs Q E hr q => ?_)
  · obtain ⟨os, as, a, q⟩ := q
    by_cases hl : as.length = ps.length
    · rw [← a.len]
      exact hl
    · rw [show defR F ps.length C.N.length b as = .bad by unfold defR; rw [if_neg hl]] at q
      exact q.elim
  · obtain ⟨X, hX⟩ : ∃ X, X = cxOf (L2N.CX P w) P w K mg base C.N qual scope f cdv A outer s H E := ⟨_, rfl⟩
    obtain ⟨W, hW⟩ : ∃ W : WX, W = fun cls d _ H => E cls d H := ⟨_, rfl⟩
    have hG : GoodS X C G F scope W := by
      subst hX hW
      exact good_of M S hr
    obtain ⟨os, as, a, q⟩ := q
    have ps1 := (soundS hG n).2 h
    refine ⟨tRuns G F W b, by rw [← hX]; exact ps1, ?_⟩
    by_cases hl : as.length = ps.length
    · unfold defR at q
      rw [if_pos hl] at q
      have hlx : vs.length = ps.length := by rw [← a.len]; exact hl
      have a' : ArgsOk G.K G.fa os H as vs := by rw [M.gk]; exact a
      have e0 := start_ok (G := G) (n := C.N.length - ps.length) a' (C.N.length - vs.length) (by rw [hlx])
      refine ⟨_, rfl, _, e0, ?_⟩
      cases h1 : runs F b (as.map some ++ List.replicate (C.N.length - ps.length) none) with
      | nx r =>
        rw [h1] at q
        exact fun σ H' e g => q .non H' (end_ok hl e) .non
      | ret d r =>
        rw [h1] at q
        exact fun v σ H' e rp => q v H' (end_ok hl e) rp
      | exc c r =>
        rw [h1] at q
        subst hW
        exact fun σ H' e => q H' (end_ok hl e)
      | brk r => rw [h1] at q; exact q.elim
      | cnt r => rw [h1] at q; exact q.elim
      | bad => rw [h1] at q; exact q.elim
    · rw [show defR F ps.length C.N.length b as = .bad by unfold defR; rw [if_neg hl]] at q
      exact q.elim
/-- an __init__ that raises -/
def mkFn (F : Nat → FnS) (n : Nat) (b : List Sm) : FnS := fun as => match runs F b (none :: (as.map some ++ List.replicate (n - 1 - as.length) none)) with
  | .exc c _ => .exc c []
  | _ => .bad
theorem self_ok {os : Addr → Prop} {H : Hp} {ds : List D} {xs : List V} {v : V} {n : Nat} (h : Rps (msk H os) ds xs) (hl : ∀ a, os a → ∃ o, H a = some o) :
    EOk { G := G, os := os, H0 := H, bs := [], bk := fun _ => .pl } (none :: ((ds.map Slot.dat).map some ++ List.replicate n none)) (some v :: (xs.map some ++ List.replicate n none)) H := by
  have at_ : ∀ (i : Nat) (s : Slot), (none :: ((ds.map Slot.dat).map some ++ List.replicate n none) : Env)[i]? = some (some s) → ∃ j d, i = j + 1 ∧ ds[j]? = some d ∧ s = .dat d := fun i s q => by
    cases i with
    | zero => simp at q
    | succ j =>
      rw [List.getElem?_cons_succ] at q
      by_cases hj : j < ds.length
      · rw [List.getElem?_append_left (by simpa using hj), List.getElem?_map, List.getElem?_map, List.getElem?_eq_getElem hj] at q
        simp at q
        exact ⟨j, ds[j], rfl, List.getElem?_eq_getElem hj, q.symm⟩
      · rw [List.getElem?_append_right (by simpa using hj), List.getElem?_replicate] at q
        split at q <;> cases q
  have nm : ∀ (i : Nat), isMut (none :: ((ds.map Slot.dat).map some ++ List.replicate n none) : Env)[i]? = false := fun i => by
    cases q : (none :: ((ds.map Slot.dat).map some ++ List.replicate n none) : Env)[i]? with
    | none => rfl
    | some s =>
      cases s with
      | none => rfl
      | some s =>
        obtain ⟨j, d, _, _, rfl⟩ := at_ i s q
        rfl
  have sm : Same (msk H os) (msk H (Msk H os (none :: ((ds.map Slot.dat).map some ++ List.replicate n none)) (some v :: (xs.map some ++ List.replicate n none)))) := msk_le fun a z => by
    rcases z with z | ⟨i, z, _⟩
    · exact z
    · rw [nm i] at z; cases z
  refine ⟨by simp [h.length], fun i s q => ?_, fun i j a z1 z2 => ?_, hl, fun _ _ q _ => q, fun i o a q1 q2 => ?_, fun i o a q1 q2 => ?_, fun p hp => by cases hp⟩
  · obtain ⟨j, d, rfl, hd, rfl⟩ := at_ i s q
    obtain ⟨w, hw, rp⟩ := h.get hd
    refine ⟨w, ?_, rp.mono sm⟩
    rw [List.getElem?_cons_succ, List.getElem?_append_left (by rw [List.length_map]; exact (List.getElem?_eq_some_iff.mp hw).1), List.getElem?_map, hw]
    rfl
  · have := z1.1
    rw [nm i] at this
    cases this
  · obtain ⟨_, _, _, _, z⟩ := at_ i _ q1
    cases z
  · obtain ⟨_, _, _, _, z⟩ := at_ i _ q1
    cases z
theorem init_ok (M : Mod P w K mg base G F C k) (FD : FunD K x qual params body scope [] [] f fd) (hs : fnScopeB C.N ps scope = true) {n : Nat} {b : List Sm} (h : chkSs C n scope body b = true) (hl : ps.length ≤ C.N.length) (hp : 1 ≤ ps.length) :
    FnOk P w K mg base (L2N.CX P w) (k + 1) f fd ps (spX K G.ca (fun as => if as.length + 1 = ps.length then mkFn F C.N.length b as else .bad)) := by
  have S := fnScopeB_ok hs
  have len : ∀ vs H Q E, spX K G.ca (fun as => if as.length + 1 = ps.length then mkFn F C.N.length b as else .bad) vs H Q E → vs.length = ps.length := fun vs H Q E q => by
    obtain ⟨v, rest, ds, os, rfl, rp, _, q⟩ := q
    by_cases z : (ds.map Slot.dat).length + 1 = ps.length
    · rw [List.length_map] at z
      rw [List.length_cons, ← rp.length]
      exact z
    · simp only [if_neg z] at q
  refine FD.ok S len (fun cdv A outer s H vs Q E hr q => ?_)
  have hlen := len _ _ _ _ q
  obtain ⟨X, hX⟩ : ∃ X, X = cxOf (L2N.CX P w) P w K mg base C.N qual scope f cdv A outer s H E := ⟨_, rfl⟩
  obtain ⟨W, hW⟩ : ∃ W : WX, W = fun cls d _ H => E cls d H := ⟨_, rfl⟩
  have gd : GoodS X C G F scope W := by
    subst hX hW
    exact good_of M S hr
  obtain ⟨v, rest, ds, os, rfl, rp, hlv, q⟩ := q
  have ps1 := (soundS gd n).2 h
  refine ⟨tRuns G F W b, by rw [← hX]; exact ps1, ?_⟩
  have z : (ds.map Slot.dat).length + 1 = ps.length := by
    rw [List.length_map, rp.length]
    exact hlen
  simp only [if_pos z] at q
  have e0 := self_ok (G := G) (v := v) (n := C.N.length - 1 - (ds.map Slot.dat).length) rp hlv
  have en : C.N.length - 1 - (ds.map Slot.dat).length = C.N.length - (v :: rest).length := by
    rw [List.length_map, rp.length, List.length_cons]
    omega
  rw [en] at e0
  refine ⟨_, rfl, _, e0, ?_⟩
  unfold mkFn at q
  rw [en] at q
  cases h1 : runs F b (none :: ((ds.map Slot.dat).map some ++ List.replicate (C.N.length - (v :: rest).length) none)) with
  | exc c r =>
    rw [h1] at q
    subst hW
    exact fun σ H' e => q H' fun a o z => e.base a o z fun p hp => by cases hp
  | nx r => rw [h1] at q; exact q.elim
  | ret d r => rw [h1] at q; exact q.elim
  | brk r => rw [h1] at q; exact q.elim
  | cnt r => rw [h1] at q; exact q.elim
  | bad => rw [h1] at q; exact q.elim
/-- a mirror: where it is not bad, it is what the def does -/
def Mir (g f : FnS) : Prop := ∀ as, g as ≠ .bad → f as = g as
theorem spOf_mir {fa ca : Nat → Addr} {g f : FnS} (h : Mir g f) : ∀ vs H Q E, spOf K fa ca g vs H Q E → spOf K fa ca f vs H Q E := fun vs H Q E ⟨os, as, a, q⟩ => by
  refine ⟨os, as, a, ?_⟩
  rw [h as (fun z => by rw [z] at q; exact q)]
  exact q
theorem def_mir {g : FnS} (M : Mod P w K mg base G F C k) (FD : FunD K x qual params body scope [] [] f fd) (hs : fnScopeB C.N ps scope = true) {n : Nat} {b : List Sm} (h : chkSs C n scope body b = true) (hm : Mir g (defR F ps.length C.N.length b)) {j : Nat} (hj : k + 1 ≤ j) :
    FnOk P w K mg base (L2N.CX P w) j f fd ps (spOf K G.fa G.ca g) := ((def_ok M FD hs h).imp (spOf_mir hm)).mono hj
end
end Ap

end
section
/-! A law's defs, one behind another; the end. -/
namespace Ap
open PySem PySem.Spec PyProof.Rows L2

/-- one def: its place in the text, its name, how many parameters, its names, whom it calls, its core term -/
structure DRow where
  i : Nat
  x : Str
  m : Nat
  N : List Str
  fns : List (Nat × Str)
  b : List Sm
/-- what a law's text names: its defs, classes, numbers, texts; fn, cn: all names by number -/
structure Lex where
  fn : List Str
  cn : List Str
  fs : List Str
  cls : List (Nat × Str)
  gi : List (Str × Int)
  gs : List (Str × Str)
  mcl : List Str := []
  ms : List He.DefD := []
  rfa : List He.Fa := []
def Lex.cs (L : Lex) : List Str := L.cls.map (·.2)
def Lex.facts (L : Lex) : List He.Fa := L.fs.map .glo ++ (blts.map .free ++ (L.gi.map (fun p => .int p.1 p.2) ++ (L.gs.map (fun p => .str p.1 p.2) ++ (L.cs.map .glo ++ (L.cs.map .exc ++ ((L.mcl.map .glo ++ L.mcl.map .mkr) ++ L.rfa))))))
def Lex.gx (L : Lex) (K : PySem.W.Frag) : Gx := { K := K, fa := fun k => He.ga K (L.fn.getD k ""), ca := fun c => He.ga K (L.cn.getD c "") }
def DRow.d (body : List Stmt) (r : DRow) : He.DefD := ⟨(r.x, none), r.x, r.x, defArgs (atS body r.i), defBody (atS body r.i), defScope (atS body r.i), [], []⟩
def DRow.ck (L : Lex) (r : DRow) : Ck := ⟨r.N, r.fns, L.cls, L.gi, L.gs, false, [], false, false, [], false, false⟩
/-- .. of a def that asks for exceptions -/
def DRow.ckA (L : Lex) (r : DRow) (mks : List (Nat × Str)) (wo : Bool := false) : Ck := ⟨r.N, r.fns, L.cls, L.gi, L.gs, true, mks, wo, false, [], false, false⟩
def DRow.okA (L : Lex) (body : List Stmt) (r : DRow) (mks : List (Nat × Str) := []) (wo : Bool := false) : Bool := fnScopeB r.N (r.N.take r.m) (defScope (atS body r.i)) && chkSs (r.ckA L mks wo) 200 (defScope (atS body r.i)) (defBody (atS body r.i)) r.b && decide (r.m ≤ r.N.length)
def DRow.ok (L : Lex) (body : List Stmt) (r : DRow) : Bool := fnScopeB r.N (r.N.take r.m) (defScope (atS body r.i)) && chkSs (r.ck L) 200 (defScope (atS body r.i)) (defBody (atS body r.i)) r.b && decide (r.m ≤ r.N.length)
def DRow.fn (F : Nat → FnS) (r : DRow) : FnS := defR F r.m r.N.length r.b
def lk (l : List (Nat × FnS)) (k : Nat) : FnS := (l.lookup k).getD fun _ => .bad

/-- what is known of the module, at the head -/
structure HdOk (K : PySem.W.Frag) (h : Heap) (mg : Str → Option Value) (L : Lex) (rows : List DRow) (body : List Stmt) : Prop where
  kin : K.In h
  ns : h.Ns mainGlobals mg
  says : He.SaysD L.facts (rows.map (DRow.d body) ++ L.ms) K
theorem row_at {rows : List DRow} {body : List Stmt} {ms : List He.DefD} {n : Nat} {r : DRow} (hr : rows[n]? = some r) : (rows.map (DRow.d body) ++ ms)[n]? = some (r.d body) := by
  have hl : n < rows.length := (List.getElem?_eq_some_iff.mp hr).1
  rw [List.getElem?_append_left (by rw [List.length_map]; exact hl), List.getElem?_map, hr]
  rfl
section
variable {P : Program} {w : World} {K : PySem.W.Frag} {mg : Str → Option Value} {base h : Heap} {L : Lex} {rows : List DRow} {body : List Stmt}
theorem HdOk.fact (Y : HdOk K h mg L rows body) {f : He.Fa} (hf : f ∈ L.facts) : f.ok K = true := by
  obtain ⟨i, hi⟩ := List.mem_iff_getElem?.mp hf
  exact Y.says.fact i hi
theorem HdOk.blt (Y : HdOk K h mg L rows body) : ∀ x ∈ blts, mg x = none := fun x hx =>
  He.free_ok Y.kin Y.ns (Y.fact (List.mem_append_right _ (List.mem_append_left _ (List.mem_map_of_mem hx))))
theorem HdOk.gi (Y : HdOk K h mg L rows body) : ∀ p ∈ L.gi, ∃ t, mg p.1 = some (.int p.2 t) := fun p hp =>
  He.int_ok Y.kin Y.ns (Y.fact (List.mem_append_right _ (List.mem_append_right _ (List.mem_append_left _ (List.mem_map.mpr ⟨p, hp, rfl⟩)))))
theorem HdOk.gs (Y : HdOk K h mg L rows body) : ∀ p ∈ L.gs, ∃ t, mg p.1 = some (.str p.2 t) := fun p hp =>
  He.str_ok Y.kin Y.ns (Y.fact (List.mem_append_right _ (List.mem_append_right _ (List.mem_append_right _ (List.mem_append_left _ (List.mem_map.mpr ⟨p, hp, rfl⟩))))))
theorem HdOk.glo (Y : HdOk K h mg L rows body) {x : Str} (hx : x ∈ L.fs) : mg x = some (.ref (He.ga K x)) :=
  He.glo_ok Y.kin Y.ns (Y.fact (List.mem_append_left _ (List.mem_map_of_mem hx)))
theorem HdOk.cls (Y : HdOk K h mg L rows body) (hc : ∀ p ∈ L.cls, L.cn[p.1]? = some p.2) : ∀ p ∈ L.cls, mg p.2 = some (.ref ((L.gx K).ca p.1)) ∧ PySem.W.excIn K ((L.gx K).ca p.1) He.veBase "ValueError.__new__" = true ∧ PySem.W.keepIn K (.ref ((L.gx K).ca p.1)) = true ∧ PySem.W.subIn K (.ref ((L.gx K).ca p.1)) (.type "BaseException") = some true ∧ PySem.W.typeIn K (.ref ((L.gx K).ca p.1)) = some (.type "type") := fun p hp => by
  have h1 := hc p hp
  have hm : p.2 ∈ L.cs := List.mem_map_of_mem hp
  have e : (L.gx K).ca p.1 = He.ga K p.2 := by
    show He.ga K (L.cn.getD p.1 "") = _
    rw [List.getD_eq_getElem?_getD, h1]
    rfl
  rw [e]
  refine ⟨He.glo_ok Y.kin Y.ns (Y.fact ?_), He.exc_ok (Y.fact ?_)⟩
  · exact List.mem_append_right _ (List.mem_append_right _ (List.mem_append_right _ (List.mem_append_right _ (List.mem_append_left _ (List.mem_map_of_mem hm)))))
  · exact List.mem_append_right _ (List.mem_append_right _ (List.mem_append_right _ (List.mem_append_right _ (List.mem_append_right _ (List.mem_append_left _ (List.mem_map_of_mem hm))))))
/-- def number k keeps f's promise, at level j -/
def Ok (P : Program) (w : World) (K : PySem.W.Frag) (mg : Str → Option Value) (base : Heap) (L : Lex) (j k : Nat) (x : Str) (f : FnS) : Prop :=
  ∃ fd ps, mg x = some (.ref ((L.gx K).fa k)) ∧ PySem.W.keepIn K (.ref ((L.gx K).fa k)) = true ∧ Binds K fd ps [] ∧ FnOk P w K mg base (L2N.CX P w) j ((L.gx K).fa k) fd ps (spOf K (L.gx K).fa (L.gx K).ca f)
theorem Ok.mono {j j' k : Nat} {x : Str} {f : FnS} (h : Ok P w K mg base L j k x f) (hj : j ≤ j') : Ok P w K mg base L j' k x f := by
  obtain ⟨fd, ps, h1, h2, h3, h4⟩ := h
  exact ⟨fd, ps, h1, h2, h3, h4.mono hj⟩
theorem DRow.step (Y : HdOk K h mg L rows body) {k n : Nat} {r : DRow} (hr : rows[n]? = some r) (hk : L.fn[k]? = some r.x) (hm : r.x ∈ L.fs) (hcl : ∀ p ∈ L.cls, L.cn[p.1]? = some p.2) (hok : r.ok L body = true)
    (hb : ∀ {fd : FuncData} {f : Addr}, FunD K r.x r.x (defArgs (atS body r.i)) (defBody (atS body r.i)) (defScope (atS body r.i)) [] [] f fd → Binds K fd (r.N.take r.m) [])
    {F : Nat → FnS} {j : Nat} (hc : ∀ p ∈ r.fns, Ok P w K mg base L j p.1 p.2 (F p.1)) : Ok P w K mg base L (j + 1) k r.x (r.fn F) := by
  unfold DRow.ok at hok
  simp only [Bool.and_eq_true, decide_eq_true_eq] at hok
  obtain ⟨⟨h1, h2⟩, h3⟩ := hok
  obtain ⟨fd, FD⟩ := Y.says.def_ n (d := r.d body) (row_at hr)
  have FD : FunD K r.x r.x (defArgs (atS body r.i)) (defBody (atS body r.i)) (defScope (atS body r.i)) [] [] (He.ga K r.x) fd := FD
  have e : (L.gx K).fa k = He.ga K r.x := by
    show He.ga K (L.fn.getD k "") = _
    rw [List.getD_eq_getElem?_getD, hk]
    rfl
  have M : Mod P w K mg base (L.gx K) F (r.ck L) j := ⟨rfl, Y.blt, Y.gi, Y.gs, Y.cls hcl, (fun z => Bool.noConfusion (show false = true from z)), (fun z => Bool.noConfusion (show false = true from z)), (fun p hp => nomatch (show p ∈ [] from hp)), (fun z => Bool.noConfusion (show false = true from z)), (fun p hp => nomatch (show p ∈ [] from hp)), (fun z => Bool.noConfusion (show false = true from z)), fun p hp => hc p hp⟩
  have z := def_ok (ps := r.N.take r.m) M FD h1 h2
  rw [List.length_take, Nat.min_eq_left h3] at z
  refine ⟨fd, r.N.take r.m, ?_, ?_, hb FD, ?_⟩
  · rw [e]
    exact Y.glo hm
  · rw [e]
    exact FD.kp
  · rw [e]
    exact z
/-- class x, whose __init__ raises as f tells, below level j -/
def OkM (P : Program) (w : World) (K : PySem.W.Frag) (mg : Str → Option Value) (base : Heap) (L : Lex) (j : Nat) (x : Str) (f : FnS) : Prop :=
  ∃ (Cl fi : Addr) (fd : FuncData) (ps : List Str) (i : Nat), mg x = some (.ref Cl) ∧ Mk K Cl fi ∧ Binds K fd ps [] ∧ FnOk P w K mg base (L2N.CX P w) i fi fd ps (spX K (L.gx K).ca f) ∧ i + 1 ≤ j
theorem OkM.mono {j j' : Nat} {x : Str} {f : FnS} (h : OkM P w K mg base L j x f) (hj : j ≤ j') : OkM P w K mg base L j' x f := by
  obtain ⟨Cl, fi, fd, ps, i, h1, h2, h3, h4, h5⟩ := h
  exact ⟨Cl, fi, fd, ps, i, h1, h2, h3, h4, Nat.le_trans h5 hj⟩
theorem okM_nil {j : Nat} {F : Nat → FnS} : ∀ p ∈ ([] : List (Nat × Str)), OkM P w K mg base L j p.2 (F p.1) := fun p hp => by cases hp
theorem okM_one {j k : Nat} {x : Str} {F : Nat → FnS} (h : OkM P w K mg base L j x (F k)) : ∀ p ∈ [(k, x)], OkM P w K mg base L j p.2 (F p.1) := fun p hp => by
  cases List.mem_singleton.mp hp
  exact h
/-- the __init__ of class x -/
theorem init_step (Y : HdOk K h mg L rows body) {x : Str} {st : Stmt} {n : Nat} {r : DRow} {qual : Str} {d : He.DefD} (hd : d = ⟨(x, some "__init__"), "__init__", qual, defArgs st, defBody st, defScope st, [], []⟩) (hn : L.ms[n]? = some d) (hx : x ∈ L.mcl) (hcl : ∀ p ∈ L.cls, L.cn[p.1]? = some p.2)
    (hok : (fnScopeB r.N (r.N.take r.m) (defScope st) && chkSs (r.ck L) 200 (defScope st) (defBody st) r.b && decide (1 ≤ r.m ∧ r.m ≤ r.N.length)) = true)
    (hb : ∀ {fd : FuncData} {f : Addr}, FunD K "__init__" qual (defArgs st) (defBody st) (defScope st) [] [] f fd → Binds K fd (r.N.take r.m) [])
    {F : Nat → FnS} {j : Nat} (hc : ∀ p ∈ r.fns, Ok P w K mg base L j p.1 p.2 (F p.1)) : OkM P w K mg base L (j + 2) x (fun as => if as.length + 1 = r.m then mkFn F r.N.length r.b as else .bad) := by
  simp only [Bool.and_eq_true, decide_eq_true_eq] at hok
  obtain ⟨⟨h1, h2⟩, h3, h4⟩ := hok
  obtain ⟨fd, FD⟩ := Y.says.def_ (rows.length + n) (d := d) (by rw [List.getElem?_append_right (by rw [List.length_map]; omega), List.length_map, Nat.add_sub_cancel_left]; exact hn)
  subst hd
  have FD : FunD K "__init__" qual (defArgs st) (defBody st) (defScope st) [] [] (He.ma K (He.ga K x) "__init__") fd := FD
  have M : Mod P w K mg base (L.gx K) F (r.ck L) j := ⟨rfl, Y.blt, Y.gi, Y.gs, Y.cls hcl, (fun z => Bool.noConfusion (show false = true from z)), (fun z => Bool.noConfusion (show false = true from z)), (fun p hp => nomatch (show p ∈ [] from hp)), (fun z => Bool.noConfusion (show false = true from z)), (fun p hp => nomatch (show p ∈ [] from hp)), (fun z => Bool.noConfusion (show false = true from z)), fun p hp => hc p hp⟩
  have hlt : (r.N.take r.m).length = r.m := by rw [List.length_take, Nat.min_eq_left h4]
  have z := init_ok (ps := r.N.take r.m) M FD h1 h2 (by rw [hlt]; exact h4) (by rw [hlt]; exact h3)
  rw [hlt] at z
  have hf : ∀ (f : He.Fa), f ∈ L.mcl.map He.Fa.glo ++ L.mcl.map He.Fa.mkr → f ∈ L.facts := fun f hf => List.mem_append_right _ (List.mem_append_right _ (List.mem_append_right _ (List.mem_append_right _ (List.mem_append_right _ (List.mem_append_right _ (List.mem_append_left _ hf))))))
  exact ⟨He.ga K x, _, fd, r.N.take r.m, j + 1, He.glo_ok Y.kin Y.ns (Y.fact (hf _ (List.mem_append_left _ (List.mem_map_of_mem hx)))), He.mkr_ok (Y.fact (hf _ (List.mem_append_right _ (List.mem_map_of_mem hx)))), hb FD, z, Nat.le_refl _⟩
theorem DRow.stepA (Y : HdOk K h mg L rows body) {k n : Nat} {r : DRow} (hr : rows[n]? = some r) (hk : L.fn[k]? = some r.x) (hm : r.x ∈ L.fs) (hcl : ∀ p ∈ L.cls, L.cn[p.1]? = some p.2) {mks : List (Nat × Str)} {wo : Bool} (hok : r.okA L body mks wo = true)
    (hb : ∀ {fd : FuncData} {f : Addr}, FunD K r.x r.x (defArgs (atS body r.i)) (defBody (atS body r.i)) (defScope (atS body r.i)) [] [] f fd → Binds K fd (r.N.take r.m) [])
    {F : Nat → FnS} {j : Nat} (ha : ∀ X : Cx, X.prog = P → X.w = w → X.K = K → X.mg = mg → X.base = base → Room j X.A → AskX X (L.gx K).ca) (hmk : ∀ p ∈ mks, OkM P w K mg base L j p.2 (F p.1)) (hc : ∀ p ∈ r.fns, Ok P w K mg base L j p.1 p.2 (F p.1)) (ho : wo = true → OpnK K (L.gx K).ca := by exact fun z => nomatch z) : Ok P w K mg base L (j + 1) k r.x (r.fn F) := by
  unfold DRow.okA at hok
  simp only [Bool.and_eq_true, decide_eq_true_eq] at hok
  obtain ⟨⟨h1, h2⟩, h3⟩ := hok
  obtain ⟨fd, FD⟩ := Y.says.def_ n (d := r.d body) (row_at hr)
  have FD : FunD K r.x r.x (defArgs (atS body r.i)) (defBody (atS body r.i)) (defScope (atS body r.i)) [] [] (He.ga K r.x) fd := FD
  have e : (L.gx K).fa k = He.ga K r.x := by
    show He.ga K (L.fn.getD k "") = _
    rw [List.getD_eq_getElem?_getD, hk]
    rfl
  have M : Mod P w K mg base (L.gx K) F (r.ckA L mks wo) j := ⟨rfl, Y.blt, Y.gi, Y.gs, Y.cls hcl, fun _ => ha, ho, fun p hp => hmk p hp, (fun z => Bool.noConfusion (show false = true from z)), (fun p hp => nomatch (show p ∈ [] from hp)), (fun z => Bool.noConfusion (show false = true from z)), fun p hp => hc p hp⟩
  have z := def_ok (ps := r.N.take r.m) M FD h1 h2
  rw [List.length_take, Nat.min_eq_left h3] at z
  refine ⟨fd, r.N.take r.m, ?_, ?_, hb FD, ?_⟩
  · rw [e]
    exact Y.glo hm
  · rw [e]
    exact FD.kp
  · rw [e]
    exact z
/-- a def of which nothing is promised -/
theorem DRow.zero (Y : HdOk K h mg L rows body) {k n : Nat} {r : DRow} (hr : rows[n]? = some r) (hk : L.fn[k]? = some r.x) (hm : r.x ∈ L.fs)
    (hb : ∀ {fd : FuncData} {f : Addr}, FunD K r.x r.x (defArgs (atS body r.i)) (defBody (atS body r.i)) (defScope (atS body r.i)) [] [] f fd → Binds K fd (r.N.take r.m) [])
    {j : Nat} : Ok P w K mg base L j k r.x (fun _ => .bad) := by
  obtain ⟨fd, FD⟩ := Y.says.def_ n (d := r.d body) (row_at hr)
  have FD : FunD K r.x r.x (defArgs (atS body r.i)) (defBody (atS body r.i)) (defScope (atS body r.i)) [] [] (He.ga K r.x) fd := FD
  have e : (L.gx K).fa k = He.ga K r.x := by
    show He.ga K (L.fn.getD k "") = _
    rw [List.getD_eq_getElem?_getD, hk]
    rfl
  refine ⟨fd, r.N.take r.m, ?_, ?_, hb FD, ?_⟩
  · rw [e]
    exact Y.glo hm
  · rw [e]
    exact FD.kp
  · exact ⟨fun vs H Q E q => (let ⟨_, _, _, z⟩ := q; z.elim), fun A outer s H args us vs Q E _ _ _ _ q => (let ⟨_, _, _, z⟩ := q; z.elim)⟩
theorem ok_nil {j : Nat} {F : Nat → FnS} : ∀ p ∈ ([] : List (Nat × Str)), Ok P w K mg base L j p.1 p.2 (F p.1) := fun p hp => by cases hp
theorem ok_cons {j k : Nat} {x : Str} {l : List (Nat × Str)} {F : Nat → FnS} (h : Ok P w K mg base L j k x (F k)) (t : ∀ p ∈ l, Ok P w K mg base L j p.1 p.2 (F p.1)) : ∀ p ∈ (k, x) :: l, Ok P w K mg base L j p.1 p.2 (F p.1) := fun p hp => by
  rcases List.mem_cons.mp hp with rfl | hp
  · exact h
  · exact t p hp
/-- the law's own def -/
theorem DRow.last (Y : HdOk K h mg L rows body) {k n : Nat} {r : DRow} {x : Str} (hr : rows[n]? = some r) (hx : r.N.take r.m = [x]) (hcl : ∀ p ∈ L.cls, L.cn[p.1]? = some p.2) (hok : r.ok L body = true)
    (hb : ∀ {fd : FuncData} {f : Addr}, FunD K r.x r.x (defArgs (atS body r.i)) (defBody (atS body r.i)) (defScope (atS body r.i)) [] [] f fd → ∀ (s : Shared) (us : List Value), us.length = [x].length → BindsTo s fd ⟨us, []⟩ ([x].zip us))
    {F : Nat → FnS} {j : Nat} : ∃ fd, (∀ (s : Shared) (u : Value), BindsTo s fd ⟨[u], []⟩ [(x, u)]) ∧ ∀ base : Heap, (∀ p ∈ r.fns, Ok P w K mg base L j p.1 p.2 (F p.1)) → FnOk P w K mg base (L2N.CX P w) (j + 1) (He.ga K r.x) fd [x] (spOf K (L.gx K).fa (L.gx K).ca (r.fn F)) := by
  unfold DRow.ok at hok
  simp only [Bool.and_eq_true, decide_eq_true_eq] at hok
  obtain ⟨⟨h1, h2⟩, h3⟩ := hok
  obtain ⟨fd, FD⟩ := Y.says.def_ n (d := r.d body) (row_at hr)
  have FD : FunD K r.x r.x (defArgs (atS body r.i)) (defBody (atS body r.i)) (defScope (atS body r.i)) [] [] (He.ga K r.x) fd := FD
  refine ⟨fd, fun s u => hb FD s [u] rfl, fun base hc => ?_⟩
  have M : Mod P w K mg base (L.gx K) F (r.ck L) j := ⟨rfl, Y.blt, Y.gi, Y.gs, Y.cls hcl, (fun z => Bool.noConfusion (show false = true from z)), (fun z => Bool.noConfusion (show false = true from z)), (fun p hp => nomatch (show p ∈ [] from hp)), (fun z => Bool.noConfusion (show false = true from z)), (fun p hp => nomatch (show p ∈ [] from hp)), (fun z => Bool.noConfusion (show false = true from z)), fun p hp => hc p hp⟩
  have z := def_ok (ps := r.N.take r.m) M FD h1 h2
  rw [List.length_take, Nat.min_eq_left h3, hx] at z
  exact z
end

/-- the end: the law's def -/
theorem walk_end {l : PySem.W.OpenLaw} {n k : Nat} {q : Program} {loose : List Str} {XP : (Str → Option Value) → Heap → Prop} {YP : World → Heap → Prop} {d : DefRec} {x : Str}
    (hn : l.most = some n) (hn2 : n ≤ sizeLine) (hdf : d.params.defaults = []) (hr : Room k callerA)
    (F : ∀ (w : World) (mg : Str → Option Value) (fa : Addr) (h : Heap), YP w h → h.Ns mainGlobals mg → mg d.name = some (.ref fa) →
      ∃ (K : PySem.W.Frag) (fd : FuncData) (f1 f2 : Nat → Addr) (f : FnS), K.In h ∧ (∀ (s : Shared) (u : Value), BindsTo s fd ⟨[u], []⟩ [(x, u)]) ∧
        (∀ ns : List Int, ns.length ≤ n → ∃ outs, f [.scr ns] = .ret (.bool true) outs) ∧
        ∀ base : Heap, K.In base → base.Ns mainGlobals mg → FnOk l.prog w K mg base (L2N.CX l.prog w) k fa fd [x] (spOf K f1 f2 f)) :
    PySem.W.WalkO q loose XP YP l.row.toRowW d [] (fun f vs => PySem.call f vs) := by
  refine Att.attach_call hn hdf fun w s₀ s₁ mg mb fa o pm cd doc a vs ns G Y ho hd hcd hmg hobj hints hlen hg => ?_
  obtain ⟨K, fd, f1, f2, f, KX, hb, hsp, hF⟩ := F w mg fa _ Y G.T.g hmg
  refine law_call KX G.T.g G.T.b G.T.builtins G.T.nolimit hg hobj hints (Nat.le_trans hlen hn2) hr hF hb (fun H hO hS => ?_) (fun H e s' => ?_)
  · obtain ⟨outs, e⟩ := hsp ns hlen
    refine ⟨fun _ => False, [.scr ns], ⟨rfl, fun i s q => ?_, fun i o q => ?_, fun i o a b q => ?_, fun i j o p a a' b q => ?_, fun a q => q.elim⟩, ?_⟩
    · cases i with
      | zero =>
        simp at q
        subst q
        refine ⟨_, rfl, a, rfl, ?_⟩
        exact (show Same H (msk H fun _ => False) from fun b o z => msk_some.mpr ⟨fun z => z, z⟩).seq hS
      | succ i => simp at q
    · cases i <;> simp at q
    · cases i <;> simp at q
    · cases i <;> simp at q
    · rw [e]
      intro v H' _ rp
      cases rp
      rfl
  · rintro ⟨_, _, _, _, _, _, _, _, _, _, _, _, z⟩
    exact z
end Ap

end
section
/-! _law_which: which class a caught exception has. -/
namespace Ap
open PySem PySem.Spec PyProof.Rows L2

section
variable {X : Cx} {a D : Addr} {oe : Obj}
/-- isinstance of the exception that is held -/
theorem is_pin (hp : (a, oe) ∈ X.pn) (C : ExcC X.K D) (hc : oe.cls = .ref D) (hd : oe.dict = none) (hf : ∃ vs, oe.data = .fields vs) : CallR X (.builtin "isinstance") (rIsE X.K D a) := by
  intro pins s σ H xs us Q I r h
  obtain ⟨c, cv, b, rfl, hcv, e, q⟩ := h
  match us, r with
  | [_, _], .cons rx (.cons rt .nil) =>
    cases rx
    have ec := hcv _ rt
    subst ec
    have hget := (I.pin (a, oe) (List.mem_append.mpr (.inl hp))).1
    obtain ⟨vs, hv⟩ := hf
    have J : PySem.W.InstAt s.heap a oe D none := by
      obtain ⟨oc, od, oda, osl⟩ := oe
      dsimp only at hc hd hv
      subst hc hd hv
      exact ⟨hget, rfl, rfl, trivial⟩
    exact PySem.W.kia_one (PySem.W.handS_kitx_exc C.hg C.hk C.hs C.hd C.ha C.hn C.ht C.hm) I.kIn J e (fun z => nomatch z) fun tk =>
      ⟨.bl b, H, I.kept (t' := tk) fun _ _ z => z, rfl, q⟩
/-- l.count(x) of data -/
def rCountD (K : PySem.W.Frag) : V → List V → Hp → VK → Prop := fun x xs H Q => ∃ (p : Addr) (y : V) (d : PyData) (ds : List PyData), x = V.ref p ∧ xs = [y] ∧ Dp K H (V.ref p) (.list ds) ∧ Dp K H y d ∧
  PyData.plainAll ds = true ∧ d.plain = true ∧ min (PyData.depthAll ds) d.depth ≤ 64 ∧ Q (.int ((ds.countP fun z => PyData.eqv z d : Nat) : Int)) H
theorem mt_countD (hu : X.A.units + 65 < cLine) : MtR X "list.count" (rCountD X.K) := by
  intro pins s σ H x xs v us Q I rx rxs h
  obtain ⟨p, y, d, ds, rfl, rfl, hl, hy, p1, p2, hm, q⟩ := h
  cases rx
  match us, rxs with
  | [uy], .cons ry .nil =>
    obtain ⟨bs, r1⟩ := Dp.reads I d y uy hy ry
    cases hl with
    | lst hs ha =>
      obtain ⟨its, rv, ⟨o, n, ho, hc, hdn, hdt⟩, hlen⟩ := I.list hs
      obtain ⟨as, h4⟩ := Dp.readsAll I ds _ its ha rv
      exact SeqAt.count_list_data (vs := its.toArray) ⟨o, ho, hc, n, hdt⟩ (by simpa using h4) r1 p1 p2 (by omega) ⟨.int _, H, I.tok _, ⟨_, rfl⟩, q⟩
/-- what the context of the def knows -/
structure WCx (X : Cx) (a D : Addr) (b : Str → Option Bool) : Prop where
  n : X.N = [("e" : Str), ("own" : Str)]
  hu : X.A.units + 65 < cLine
  isp : CallR X (.builtin "isinstance") (rIsE X.K D a)
  ve : Vis X.env.scope "e"
  vo : Vis X.env.scope "own"
  lo : L2.Loc X.env.scope "own"
  fo : X.fn "own" = true ∨ X.env.scope.names.lookup ("own" : Str) = some .local
  kd : X.env.scope.kind = .function
  gi : Gl X "isinstance"
  mi : X.mg "isinstance" = none
  cls : ∀ c v, b c = some v → Gl X c ∧ okName c = true ∧ ∃ A, X.mg c = some (.ref A) ∧ PySem.W.kitOne X.K (.ref D) (.ref A) = some v
  gv : Gl X "ValueError"
  mv : X.mg "ValueError" = none
  kv : PySem.W.kitOne X.K (.ref D) (.type "ValueError") = some true
def isIns (c : Str) : Expr → Bool
  | .Call (.Name f _) [.Name x _, .Name y _] [] _ => decide (f = "isinstance") && decide (x = "e") && decide (y = c)
  | _ => false
def isInsL : List Str → List Expr → Bool
  | [], [] => true
  | c :: cs, e :: es => isIns c e && isInsL cs es
  | _, _ => false
def tIs (a : Addr) (v : Bool) : TE := fun σ H Q => σ[0]? = some (some (.ref a)) ∧ Q (.bl v) H
def tIsL (a : Addr) (vs : List Bool) : TA := fun σ H Q => σ[0]? = some (some (.ref a)) ∧ Q (vs.map .bl) H
section
variable {b : Str → Option Bool}
theorem pe_ins (W : WCx X a D b) {c : Str} {e : Expr} {v : Bool} (h : isIns c e = true) (hb : b c = some v) : PE X e (tIs a v) := by
  unfold isIns at h
  split at h
  · simp only [Bool.and_eq_true, decide_eq_true_eq] at h
    obtain ⟨⟨rfl, rfl⟩, rfl⟩ := h
    obtain ⟨g, ok, A, m, k⟩ := W.cls _ _ hb
    obtain ⟨o1, o2, o3⟩ := okName_ok ok
    refine PE.imp (pe_callB W.isp W.gi W.mi (by decide +kernel) (pa_cons (pe_var (i := 0) (by rw [W.n]; rfl) W.ve) (pa_cons (pe_glob (v := .ref A) g m rfl o1) pa_nil rfl) rfl)) fun σ H Q q => ?_
    obtain ⟨q0, q⟩ := q
    exact ⟨_, q0, _, .ref A, v, rfl, fun u r => r, k, q⟩
  · cases h
theorem pa_insL (W : WCx X a D b) : ∀ {cs : List Str} {es : List Expr} {vs : List Bool}, isInsL cs es = true → cs.map b = vs.map some → PA X es (tIsL a vs)
  | [], [], [], _, _ => PA.imp pa_nil fun σ H Q q => q.2
  | [], [], _ :: _, _, h => by simp at h
  | c :: cs, e :: es, [], _, h => by simp at h
  | c :: cs, e :: es, v :: vs, h, hb => by
    unfold isInsL at h
    rw [Bool.and_eq_true] at h
    simp only [List.map_cons, List.cons.injEq] at hb
    have hs : noStar e = true := by
      have h1 := h.1
      unfold isIns at h1
      split at h1
      · rfl
      · cases h1
    exact PA.imp (pa_cons (pe_ins W h.1 hb.1) (pa_insL W h.2 hb.2) (star_cons hs)) fun σ H Q q => ⟨q.1, q.1, q.2⟩
  | [], _ :: _, _, h, _ => by simp [isInsL] at h
  | _ :: _, [], _, h, _ => by simp [isInsL] at h
def isAsg (cs : List Str) : Stmt → Bool
  | .Assign [.Name x _] (.List es _) _ => decide (x = "own") && isInsL cs es
  | _ => false
def isExt (cs : List Str) : Stmt → Bool
  | .Expr (.Call (.Attribute (.Name x _) m apos) [.List es _] [] cpos) _ => decide (x = "own") && decide (m = "extend") && (apos.endLine == cpos.line) && isInsL cs es
  | _ => false
def tOwn (a : Addr) (vs : List Bool) : TS := fun D σ H => σ[0]? = some (some (.ref a)) ∧ ∀ p, H p = none → D.nx (σ.set 1 (some (.ref p))) (upd H p (.lst (vs.map .bl)))
def tMore (a : Addr) (vs : List Bool) : TS := fun D σ H => σ[0]? = some (some (.ref a)) ∧ ∃ (l : Addr) (us : List Bool), σ[1]? = some (some (.ref l)) ∧ H l = some (.lst (us.map .bl)) ∧ us.length ≤ 100 ∧ ∀ p, H p = none → D.nx σ (upd (upd H p (.lst (vs.map .bl))) l (.lst ((us ++ vs).map .bl)))
theorem ps_own (W : WCx X a D b) {cs : List Str} {st : Stmt} {vs : List Bool} (h : isAsg cs st = true) (hb : cs.map b = vs.map some) (hl : vs.length ≤ 100) : PS X st (tOwn a vs) := by
  unfold isAsg at h
  split at h
  · simp only [Bool.and_eq_true, decide_eq_true_eq] at h
    obtain ⟨rfl, h⟩ := h
    have nd : X.N.Nodup := by rw [W.n]; decide
    refine PS.imp (ps_asg (pe_lst (pa_insL W h hb)) (pg_name (i := 1) nd (by rw [W.n]; rfl) W.lo W.fo) rfl rfl rfl) fun D σ H q => ?_
    refine ⟨q.1, ?_, fun p hp => q.2 p hp⟩
    rw [List.length_map]
    exact Nat.le_trans hl (by decide)
  · cases h
theorem ps_more (W : WCx X a D b) {cs : List Str} {st : Stmt} {vs : List Bool} (h : isExt cs st = true) (hb : cs.map b = vs.map some) (hl : vs.length ≤ 100) : PS X st (tMore a vs) := by
  unfold isExt at h
  split at h
  · simp only [Bool.and_eq_true, decide_eq_true_eq] at h
    obtain ⟨⟨⟨rfl, rfl⟩, h3⟩, h4⟩ := h
    refine PS.imp (ps_expr (pe_bm (X := X) PySem.F.plainAttrs_list PySem.F.slot_list_extend PySem.F.type_list_extend mt_extend (pe_var (i := 1) (by rw [W.n]; rfl) W.vo) (pa_cons (pe_lst (pa_insL W h4 hb)) pa_nil rfl) rfl rfl h3 rfl rfl)) fun D σ H q => ?_
    obtain ⟨q0, l, us, q1, hH, hu, q⟩ := q
    refine ⟨_, q1, .inl ⟨rfl, _, .of hH⟩, q0, ?_, fun p hp => ?_⟩
    · rw [List.length_map]
      exact Nat.le_trans hl (by decide)
    · have hne : l ≠ p := fun z => by rw [z, hp] at hH; cases hH
      refine ⟨l, p, us.map .bl, vs.map .bl, rfl, rfl, by rw [upd_ne hne]; exact hH, by rw [upd_same], ?_, ?_⟩
      · rw [List.length_map, List.length_map]
        exact Nat.le_trans (show us.length + vs.length ≤ 200 by omega) (by decide)
      · rw [← List.map_append]
        exact q p hp
  · cases h
def isVal : Expr → Bool
  | .Call (.Name f _) [.Name x _, .Name y _] [] _ => decide (f = "isinstance") && decide (x = "e") && decide (y = "ValueError")
  | _ => false
theorem pe_isVal (W : WCx X a D b) {e : Expr} (h : isVal e = true) : PE X e (tIs a true) := by
  unfold isVal at h
  split at h
  · simp only [Bool.and_eq_true, decide_eq_true_eq] at h
    obtain ⟨⟨rfl, rfl⟩, rfl⟩ := h
    refine PE.imp (pe_callB W.isp W.gi W.mi (by decide +kernel) (pa_cons (pe_var (i := 0) (by rw [W.n]; rfl) W.ve) (pa_cons (pe_bltn (v := .ty "ValueError") W.gv W.mv (u := .type "ValueError") (by decide +kernel) rfl) pa_nil rfl) rfl)) fun σ H Q q => ?_
    obtain ⟨q0, q⟩ := q
    exact ⟨_, q0, _, .type "ValueError", true, rfl, fun u r => r, W.kv, q⟩
  · cases h
theorem pt_isVal (W : WCx X a D b) {e : Expr} (h : isVal e = true) : PT X e (tB (tIs a true)) := by
  have p := pe_isVal W h
  unfold isVal at h
  split at h
  · exact pt_val p
  · cases h
/-- the list of bools as data -/
theorem dp_bools {K : PySem.W.Frag} {H : Hp} {l : Addr} {us : List Bool} (h : H l = some (.lst (us.map .bl))) : Dp K H (.ref l) (.list (us.map .bool)) := by
  refine .lst (.of h) ?_
  clear h
  induction us with
  | nil => exact .nil
  | cons u us ih => exact .cons (.bl u) ih
theorem bools_plain : ∀ us : List Bool, PyData.plainAll (us.map .bool) = true
  | [] => rfl
  | u :: us => by simp [PyData.plainAll, PyData.plain, bools_plain us]
theorem bools_depth : ∀ us : List Bool, PyData.depthAll (us.map .bool) = 0
  | [] => rfl
  | u :: us => by simp [PyData.depthAll, PyData.depth, bools_depth us]
theorem bools_lay : ∀ us : List Bool, PyData.canLayAll0 (us.map .bool) = true
  | [] => by simp [PyData.canLayAll0]
  | u :: us => by simp [PyData.canLayAll0, PyData.canLay0, bools_lay us]
def isCount : Expr → Bool
  | .Call (.Attribute (.Name x _) m apos) [.Constant (.bool true) _ _] [] cpos => decide (x = "own") && decide (m = "count") && (apos.endLine == cpos.line)
  | _ => false
def isIndex : Expr → Bool
  | .Call (.Attribute (.Name x _) m apos) [.Constant (.bool true) _ _] [] cpos => decide (x = "own") && decide (m = "index") && (apos.endLine == cpos.line)
  | _ => false
theorem isIndex_star {e : Expr} (h : isIndex e = true) : noStar e = true := by
  unfold isIndex at h
  split at h
  · rfl
  · cases h
def tCnt : TE := fun σ H Q => ∃ (l : Addr) (us : List Bool), σ[1]? = some (some (.ref l)) ∧ H l = some (.lst (us.map .bl)) ∧ Q (.int ((us.count true : Nat) : Int)) H
def tIdx : TE := fun σ H Q => ∃ (l : Addr) (us : List Bool) (j : Nat), σ[1]? = some (some (.ref l)) ∧ H l = some (.lst (us.map .bl)) ∧ us[j]? = some true ∧ (∀ m < j, us[m]? = some false) ∧ Q (.int (j : Nat)) H
theorem eqv_tt (u : Bool) : PyData.eqv (.bool u) (.bool true) = u := by cases u <;> rfl
theorem pe_count (W : WCx X a D b) {e : Expr} (h : isCount e = true) : PE X e tCnt := by
  unfold isCount at h
  split at h
  · simp only [Bool.and_eq_true, decide_eq_true_eq] at h
    obtain ⟨⟨rfl, rfl⟩, h3⟩ := h
    refine PE.imp (pe_bm (X := X) PySem.F.plainAttrs_list PySem.F.slot_list_count PySem.F.type_list_count (mt_countD W.hu) (pe_var (i := 1) (by rw [W.n]; rfl) W.vo) (pa_cons pe_bl pa_nil rfl) rfl rfl h3 rfl rfl) fun σ H Q q => ?_
    obtain ⟨l, us, q1, hH, q⟩ := q
    refine ⟨_, q1, .inl ⟨rfl, _, .of hH⟩, l, _, .bool true, us.map .bool, rfl, rfl, dp_bools hH, .bl true, bools_plain us, rfl, by rw [bools_depth]; simp, ?_⟩
    have e : ((us.map PyData.bool).countP fun z => PyData.eqv z (.bool true)) = us.count true := by
      rw [List.countP_map]
      unfold List.count
      congr 1
    rw [e]
    exact q
  · cases h
theorem pe_index (W : WCx X a D b) {e : Expr} (h : isIndex e = true) : PE X e tIdx := by
  unfold isIndex at h
  split at h
  · simp only [Bool.and_eq_true, decide_eq_true_eq] at h
    obtain ⟨⟨rfl, rfl⟩, h3⟩ := h
    refine PE.imp (pe_bm (X := X) PySem.F.plainAttrs_list PySem.F.slot_list_index PySem.F.type_list_index (mt_indexD W.hu) (pe_var (i := 1) (by rw [W.n]; rfl) W.vo) (pa_cons pe_bl pa_nil rfl) rfl rfl h3 rfl rfl) fun σ H Q q => ?_
    obtain ⟨l, us, j, q1, hH, hj, hm, q⟩ := q
    have sh : SeqAt.shaped (.list (us.map .bool)) = true := by
      show (PyData.canLay0 (.list (us.map .bool)) && decide (PyData.depth (.list (us.map .bool)) ≤ 64)) = true
      rw [Bool.and_eq_true]
      refine ⟨by simp only [PyData.canLay0]; exact bools_lay us, decide_eq_true ?_⟩
      simp only [PyData.depth, bools_depth]
      omega
    refine ⟨_, q1, .inl ⟨rfl, _, .of hH⟩, l, _, .bool true, us.map .bool, j, .bool true, rfl, rfl, dp_bools hH, .bl true, sh, rfl, by rw [List.getElem?_map, hj]; rfl, rfl, fun m z hmj hz => ?_, q⟩
    rw [List.getElem?_map, hm m hmj] at hz
    cases hz
    rfl
  · cases h
/-! ### the whole body -/
def isWhich : List Stmt → Bool
  | [s1, s2, s3, s4, s5, .If (.BoolOp .Or [.Compare c [.NotEq] [.Constant (.int 1) _ _] _, .UnaryOp .Not v _] _) _ [] _, .Return (some (.Tuple [.Constant (.str r) _ _, ix] _ _)) _] =>
    isAsg grp1 s1 && isExt grp2 s2 && isExt grp3 s3 && isExt grp4 s4 && isExt grp5 s5 && isCount c && isVal v && decide (r = "raised") && isIndex ix
  | _ => false
/-- the list grows, the rest stays -/
structure Grows (H H1 : Hp) (l : Addr) (us : List Bool) : Prop where
  same : Same H H1
  new : H l = none
  at_ : H1 l = some (.lst (us.map .bl))
theorem Grows.more {H H1 : Hp} {l p : Addr} {us vs : List Bool} {x : HO} (g : Grows H H1 l us) (hp : H1 p = none) : Grows H (upd (upd H1 p x) l (.lst ((us ++ vs).map .bl))) l (us ++ vs) := by
  refine ⟨fun c o h => ?_, g.new, upd_same⟩
  have h1 : c ≠ l := fun z => by rw [z, g.new] at h; cases h
  have h2 : c ≠ p := fun z => by
    have := g.same c o h
    rw [z, hp] at this
    cases this
  rw [upd_ne h1, upd_ne h2]
  exact g.same c o h
def tWhich (a : Addr) (j : Nat) : TS := fun D σ H => σ = [some (.ref a), none] ∧ ∀ H', Same H H' → ∀ q, H' q = none → D.rt (.ref q) (upd H' q (.tup [.str "raised", .int (j : Nat)]))
theorem which_body (W : WCx X a D b) {body : List Stmt} {j : Nat} {v1 v2 v3 v4 v5 : List Bool} (h : isWhich body = true) (h1 : grp1.map b = v1.map some) (h2 : grp2.map b = v2.map some) (h3 : grp3.map b = v3.map some) (h4 : grp4.map b = v4.map some) (h5 : grp5.map b = v5.map some)
    (hc : (v1 ++ v2 ++ v3 ++ v4 ++ v5).count true = 1) (hj : (v1 ++ v2 ++ v3 ++ v4 ++ v5)[j]? = some true) (hm : ∀ m < j, (v1 ++ v2 ++ v3 ++ v4 ++ v5)[m]? = some false) : PSs X body (tWhich a j) := by
  unfold isWhich at h
  split at h
  · simp only [Bool.and_eq_true, decide_eq_true_eq] at h
    obtain ⟨⟨⟨⟨⟨⟨⟨⟨a1, a2⟩, a3⟩, a4⟩, a5⟩, a6⟩, a7⟩, rfl⟩, a9⟩ := h
    have len : ∀ {g : List Str} {v : List Bool}, g.length ≤ 100 → g.map b = v.map some → v.length ≤ 100 := fun {g v} hg e => by
      have := congrArg List.length e
      simp at this
      omega
    have l1 := len (by decide) h1
    have l2 := len (by decide) h2
    have l3 := len (by decide) h3
    have l4 := len (by decide) h4
    have l5 := len (by decide) h5
    have n1 : v1.length = 3 := by have := congrArg List.length h1; simpa [grp1] using this.symm
    have n2 : v2.length = 3 := by have := congrArg List.length h2; simpa [grp2] using this.symm
    have n3 : v3.length = 3 := by have := congrArg List.length h3; simpa [grp3] using this.symm
    have n4 : v4.length = 4 := by have := congrArg List.length h4; simpa [grp4] using this.symm
    have no : ∀ ss : List Stmt, PSs X ss (fun _ _ _ => False) := fun ss => ⟨fun _ _ _ _ _ _ z => z.elim⟩
    refine PSs.imp (pss_cons (ps_own W a1 h1 l1) (pss_cons (ps_more W a2 h2 l2) (pss_cons (ps_more W a3 h3 l3) (pss_cons (ps_more W a4 h4 l4) (pss_cons (ps_more W a5 h5 l5)
      (pss_cons (ps_if (PW.pt (pw_or (pt_cmpR (or_ne (X := X) (by have := W.hu; omega)) (pe_count W a6) pe_int rfl) (pw_or1 (pt_not (pt_isVal W a7))))) (no _) pss_nil)
        (pss_one (ps_ret (pe_tup (pa_cons pe_str (pa_cons (pe_index W a9) pa_nil (star_cons (isIndex_star a9))) rfl)))))))))) fun D σ H q => ?_
    obtain ⟨rfl, q⟩ := q
    refine ⟨rfl, fun p1 f1 => ?_⟩
    have g1 : Grows H (upd H p1 (.lst (v1.map .bl))) p1 v1 := ⟨same_upd f1, f1, upd_same⟩
    refine ⟨rfl, p1, v1, rfl, g1.at_, l1, fun p2 f2 => ?_⟩
    have g2 := g1.more (vs := v2) (x := .lst (v2.map .bl)) f2
    refine ⟨rfl, p1, _, rfl, g2.at_, by simp; omega, fun p3 f3 => ?_⟩
    have g3 := g2.more (vs := v3) (x := .lst (v3.map .bl)) f3
    refine ⟨rfl, p1, _, rfl, g3.at_, by simp; omega, fun p4 f4 => ?_⟩
    have g4 := g3.more (vs := v4) (x := .lst (v4.map .bl)) f4
    refine ⟨rfl, p1, _, rfl, g4.at_, by simp; omega, fun p5 f5 => ?_⟩
    have g5 := g4.more (vs := v5) (x := .lst (v5.map .bl)) f5
    refine ⟨p1, _, rfl, g5.at_, .int 1, .int 1, ?_, .int 1, rfl, rfl, by simp [PyData.depth], _, rfl, ?_⟩
    · rw [hc]
      exact .int 1
    · show (if (!PyData.eqv (.int 1) (.int 1)) = true then _ else _)
      rw [if_neg (by decide)]
      refine ⟨rfl, true, rfl, ?_⟩
      show (if (!true) = true then _ else _)
      rw [if_neg (by decide)]
      refine ⟨p1, _, j, rfl, g5.at_, hj, hm, ?_, fun q0 f0 => ?_⟩
      · show 2 ≤ sizeLine
        decide
      · exact q _ g5.same q0 f0
  · cases h
end
end
end Ap

end
section
/-! A def called where an exception is handled, with that exception as its argument. -/
namespace Ap
open PySem PySem.Spec PyProof.Rows L2

theorem hot_run {Cxt : CXT} {P : Program} {w : World} {K : PySem.W.Frag} {mg : Str → Option Value} {base : Heap} {k : Nat} {f : Addr} {x qual : Str} {params : Arguments} {body : List Stmt} {scope : Scope} {fd : FuncData} {N ps : List Str}
    (FD : FunD K x qual params body scope [] [] f fd) (S : FnScope N ps scope) {A : Around} {outer : List PySem.Env} {s : Shared} {H : Hp} {args : Args} {us : List Value} {vs : List V} {Q : VK} {E : XK} {p : Addr × Obj}
    (room : L2H.RoomH (k + 1) A) (pin : L2H.PinOk outer H s p) (en : Env0 P w K mg base A outer s H) (bd : BindsTo s fd args (ps.zip us)) (rv : Vals vs us) (hl : vs.length = ps.length)
    (hbody : ∀ cdv : Value, L2H.RoomH k (A.deeper (envOfC qual scope s.heap.objs.size f cdv)) → ∃ t, PSs (L2H.cxH Cxt P w K mg base N qual scope f cdv A outer s H E p) body t ∧ t { nx := fun _ H' => Q .non H', rt := Q } (L2.start N vs) H) :
    codeAny (model P w) A (.call (.ref f) args) (CR Cxt outer P w H s Q E) s := by
  obtain ⟨oc, od, dV, kV, doc, pm, an, cdv, ct, osl, rfl, lk, hcd, _, _⟩ := FD.ex
  have kin : K.In s.heap := en.mod.kin.keeps fun c o z => (en.bs c o z).1
  have nl : s.heap.NoLimit := en.mod.nolimit.keeps fun c o z => (en.bs c o z).1
  have kinds : ∀ y ∈ ps.zip us, scope.names.lookup y.1 = some .local ∨ (scope.names.lookup y.1 = some .cell ∧ ((cellsFrom (s.heap.objs.size + 1) scope.names []).lookup y.1).isSome = true) := by
    rintro ⟨m, v⟩ hy
    rcases S.par m (List.of_mem_zip hy).1 with z | z
    · exact .inl z
    · exact .inr ⟨z, PySem.W.cellsFrom_some _ _ _ (.inl z)⟩
  refine codeAny_call_function room.depth (kin _ _ lk) rfl S.co S.gen rfl (PySem.W.codeRec_of kin hcd) (bd _ _ _ _ ?_)
  refine wpAny_newFunctionEnv_cells S.kind kinds fun env he s1 nw => ?_
  subst he
  refine ⟨nl.keeps nw.toInCall.keep, codeAny_func ?_⟩
  obtain ⟨t, ht, hq⟩ := hbody cdv (room.deeper _)
  have J0 : L2.Inv (L2H.cxH Cxt P w K mg base N qual scope f cdv A outer s H E p) [] (L2.start N vs) H s1 := L2H.inv_startH S pin en hl rv nw
  refine wpAny_mono (ht.run [] s1 (L2.start N vs) H _ J0 hq) (fun fl s' hs => ?_) fun _ _ z => z
  have done : ∀ {σ' : St} {H' : Hp} {v : V} {u : Value}, L2.Inv (L2H.cxH Cxt P w K mg base N qual scope f cdv A outer s H E p) [] σ' H' s' → RelV v u → Q v H' → CE outer P w H s Q u s' := by
    intro σ' H' v u J r q
    exact ⟨v, H', J.os, J.bare, J.base, J.hok, r, q⟩
  cases fl with
  | ret u =>
    obtain ⟨v, σ', H', J, r, q⟩ := hs
    exact done J r q
  | next =>
    obtain ⟨σ', H', J, q⟩ := hs
    exact done (v := V.non) (u := Value.none) J rfl q
  | brk =>
    obtain ⟨_, _, _, q⟩ := hs
    exact q.elim
  | cont =>
    obtain ⟨_, _, _, q⟩ := hs
    exact q.elim
/-- the call of _law_which with the exception that is held -/
theorem pe_hot {X : Cx} {k : Nat} {f : Addr} {fd : FuncData} {x y qual : Str} {params : Arguments} {body : List Stmt} {scope : Scope} {N ps : List Str} {p : Addr × Obj} {i j : Nat} {q q2 pos : Pos}
    (FD : FunD X.K x qual params body scope [] [] f fd) (S : FnScope N ps scope) (hps : ps.length = 1) (room : L2H.RoomH (k + 1) X.A) (hp : p ∈ X.pn) (hg : Gl X x) (hm : X.mg x = some (.ref f)) (hk : PySem.W.keepIn X.K (.ref f) = true) (hb : Binds X.K fd ps [])
    (hy : X.N[i]? = some y) (hv : Vis X.env.scope y) (o1 : (x == ("__debug__" : Str)) = false) (o2 : okName y = true)
    (hbody : ∀ (cdv : Value) (s : Shared) (H : Hp), L2H.RoomH k (X.A.deeper (envOfC qual scope s.heap.objs.size f cdv)) → PSs (L2H.cxH (L2N.CX X.prog X.w) X.prog X.w X.K X.mg X.base N qual scope f cdv X.A X.stack s H (fun _ _ _ => False) p) body (tWhich p.1 j))
    (hN : N.length = 2) :
    PE X (.Call (.Name x q) [.Name y q2] [] pos) (fun σ H Q => σ[i]? = some (some (.ref p.1)) ∧ ∀ H', Same H H' → ∀ r, H' r = none → Q (.ref r) (upd H' r (.tup [.str "raised", .int (j : Nat)]))) := by
  obtain ⟨d1, d2, d3⟩ := okName_ok o2
  refine ⟨fun pins s σ H Q I h => ?_⟩
  refine wpAny_Call_Name_kw (ld_glob I hg hm ?_ o1)
  refine PySem.W.callWith_K (h₀ := X.base) I.ok.mod.kin hk (thn ((pa_cons (pe_var (i := i) hy hv d1 d2) pa_nil rfl).run pos pins s σ H (fun vs H1 => vs = [.ref p.1] ∧ H1 = H) I ⟨_, h.1, rfl, rfl⟩) fun us s1 hz => ?_) rfl rfl
  obtain ⟨vs, H1, I1, rv, rfl, rfl⟩ := hz
  refine ⟨I1.kIn, ?_⟩
  have hl : us.length = ps.length := by rw [← rv.length, hps]; rfl
  have b := hb s1 us I1.kIn (by rw [List.append_nil]; exact hl)
  rw [List.append_nil] at b
  have P1 := I1.pin p (List.mem_append_left _ hp)
  have hpin : L2H.PinOk X.stack H1 s1 p := ⟨P1.1, P1.2.1, fun hm => (List.mem_cons.mp (I1.stkSub p.1 hm)).elim P1.2.2.1 P1.2.2.2.1, P1.2.2.2.2⟩
  refine wpAny_call (codeAny_mono (hot_run (Cxt := L2N.CX X.prog X.w) (E := fun _ _ _ => False) (Q := Q) FD S room hpin I1.env0 b rv (by rw [hps]; rfl) fun cdv hr => ⟨_, hbody cdv s1 H1 hr, ?_⟩) fun r s' hq => ?_)
  · refine ⟨?_, h.2⟩
    unfold L2.start
    rw [hN]
    rfl
  · cases r with
    | error e =>
      obtain ⟨_, _, _, _, _, _, _, _, _, _, _, _, z⟩ := hq
      exact z.elim
    | ok fl =>
      cases fl with
      | ret u => exact I1.after hq
      | next => exact hq.elim
      | brk => exact hq.elim
      | cont => exact hq.elim
end Ap

end
section
/-! What a try needs, from the head's facts. -/
namespace Ap
open PySem PySem.Spec PyProof.Rows L2

def whichSc (sc : Scope) : Bool := visB sc "e" && visB sc "own" && locB sc "own" && glB sc "isinstance" && glB sc "ValueError" && excNames.all (fun x => glB sc x && okName x)
/-- the truth values of the fifteen questions -/
def ansL (x : Str) : List Bool := grp1.map (fun y => decide (x = y)) ++ grp2.map (fun y => decide (x = y)) ++ grp3.map (fun y => decide (x = y)) ++ grp4.map (fun y => decide (x = y)) ++ grp5.map (fun y => decide (x = y))
theorem ans_ok : ∀ m : Fin 15, (ansL (excNames.getD m.1 "")).count true = 1 ∧ (ansL (excNames.getD m.1 ""))[m.1]? = some true ∧ ∀ k : Fin 15, k.1 < m.1 → (ansL (excNames.getD m.1 ""))[k.1]? = some false := by decide +kernel
def ansB (x : Str) : Str → Option Bool := fun y => if y ∈ excNames then some (decide (x = y)) else none
theorem ans_grp {x : Str} {g : List Str} (h : ∀ y ∈ g, y ∈ excNames) : g.map (ansB x) = (g.map fun y => decide (x = y)).map some := by
  rw [List.map_map]
  refine List.map_congr_left fun y hy => ?_
  show (if y ∈ excNames then some (decide (x = y)) else none) = some (decide (x = y))
  rw [if_pos (h y hy)]
theorem glB_at {sc : Scope} {x : Str} (h : glB sc x = true) : sc.names.lookup x = some .globalImplicit := by
  unfold glB at h
  split at h
  · assumption
  · cases h
theorem ask_ok {P : Program} {w : World} {K : PySem.W.Frag} {mg : Str → Option Value} {base : Heap} {ca : Nat → Addr} {params : Arguments} {body : List Stmt} {scope : Scope} {fd : FuncData} {j : Nat}
    (FD : FunD K "_law_which" "_law_which" params body scope [] [] (He.ga K "_law_which") fd) (hs : fnScopeB ["e", "own"] ["e"] scope = true) (hw : isWhich body = true) (hsc : whichSc scope = true) (hb : Binds K fd ["e"] []) (hm : mg "_law_which" = some (.ref (He.ga K "_law_which")))
    (wb : whichB K = true) (mgc : ∀ x ∈ excNames, mg x = some (.ref (He.ga K x))) (mpe : mg "PathError" = some (.ref (He.ga K "PathError"))) (hca : ∀ c, 1 ≤ c → c ≤ 15 → ca c = He.ga K (excNames.getD (c - 1) "")) (mi : mg "isinstance" = none) (mv : mg "ValueError" = none) (hj : 1 ≤ j) :
    ∀ X : Cx, X.prog = P → X.w = w → X.K = K → X.mg = mg → X.base = base → Room j X.A → AskX X ca := by
  intro X e1 e2 e3 e4 e5 hr
  subst e1 e2 e3 e4 e5
  refine ⟨He.ga X.K "PathError", mpe, fun c c1 c2 => ?_⟩
  have hlt : c - 1 < 15 := by omega
  have hx : excNames.getD (c - 1) "" ∈ excNames := by
    rw [List.getD_eq_getElem?_getD, List.getElem?_eq_getElem (show c - 1 < excNames.length from hlt)]
    exact List.getElem_mem _
  obtain ⟨a1, a2, a3⟩ := ans_ok ⟨c - 1, hlt⟩
  dsimp only at a1 a2 a3
  rw [hca c c1 c2]
  generalize excNames.getD (c - 1) "" = x at hx a1 a2 a3
  have wx := List.all_eq_true.mp wb x hx
  simp only [Bool.and_eq_true, decide_eq_true_eq] at wx
  obtain ⟨w1, w2, w3, w4⟩ := wx
  refine ⟨w3, fun a oe pn hz hd i nm q q2 pos hN hv ho hg => ?_⟩
  have S := fnScopeB_ok hs
  have r0 := L2H.roomH_of (Room.mono hr hj)
  unfold whichSc at hsc
  simp only [Bool.and_eq_true] at hsc
  obtain ⟨⟨⟨⟨⟨s1, s2⟩, s3⟩, s4⟩, s5⟩, s6⟩ := hsc
  refine pe_hot (X := X.suite a ((a, oe) :: pn)) (k := 0) (p := (a, oe)) (j := c - 1) FD S rfl ⟨r0.dp, r0.un⟩ (List.mem_cons_self ..) hg hm FD.kp hb hN hv (by decide) ho (fun cdv s H hr2 => ?_) rfl
  have un := hr2.un
  refine which_body (b := ansB x) (D := He.ga X.K x) ?_ hw (ans_grp ?_) (ans_grp ?_) (ans_grp ?_) (ans_grp ?_) (ans_grp ?_) a1 a2 (fun m hm => a3 ⟨m, by omega⟩ hm)
  · refine ⟨rfl, ?_, ?_, visB_ok s1, visB_ok s2, ?_, .inl rfl, S.kind, ?_, mi, fun y v hy => ?_, ?_, mv, ?_⟩
    · show (Around.deeper _ _).units + 65 < cLine
      omega
    · exact is_pin (oe := oe) (List.mem_cons_self ..) (excB_ok w1) hz.1 hz.2.1 hd
    · unfold locB at s3
      split at s3
      · exact .inl (by assumption)
      · exact .inr (by assumption)
      · cases s3
    · exact glB_at s4
    · unfold ansB at hy
      split at hy
      · rename_i hyx
        cases hy
        have := List.all_eq_true.mp s6 y hyx
        rw [Bool.and_eq_true] at this
        refine ⟨glB_at this.1, this.2, _, mgc y hyx, ?_⟩
        exact of_decide_eq_true (List.all_eq_true.mp w4 y hyx)
      · cases hy
    · exact glB_at s5
    · exact of_decide_eq_true w2
  all_goals (intro y hy; unfold excNames; simp only [List.mem_append, hy, true_or, or_true])
theorem opens_ok {K : PySem.W.Frag} {L : Lex} (hn : ∀ m : Fin 15, L.cn.getD (m.1 + 1) "" = excNames.getD m.1 "") (ho : L.cn.getD 16 "" = "NotOpen") (wb : openB K = true) : OpnK K (L.gx K).ca := by
  unfold openB at wb
  rw [Bool.and_eq_true] at wb
  obtain ⟨w1, w2⟩ := wb
  have e : (L.gx K).ca 16 = He.ga K "NotOpen" := by
    show He.ga K (L.cn.getD 16 "") = _
    rw [ho]
  refine ⟨by rw [e]; exact of_decide_eq_true w1, fun c c1 c2 => ?_⟩
  have := hn ⟨c - 1, by omega⟩
  dsimp only at this
  rw [show c - 1 + 1 = c by omega] at this
  have e2 : (L.gx K).ca c = He.ga K (excNames.getD (c - 1) "") := by
    show He.ga K (L.cn.getD c "") = _
    rw [this]
  rw [e, e2]
  refine of_decide_eq_true (List.all_eq_true.mp w2 _ ?_)
  rw [List.getD_eq_getElem?_getD, List.getElem?_eq_getElem (show c - 1 < excNames.length from (by show c - 1 < 15; omega))]
  exact List.getElem_mem _
theorem DRow.asks {P : Program} {w : World} {K : PySem.W.Frag} {mg : Str → Option Value} {base h : Heap} {L : Lex} {rows : List DRow} {body : List Stmt} (Y : HdOk K h mg L rows body) {n j : Nat} {r : DRow} (hr : rows[n]? = some r) (hx : r.x = "_law_which") (hm : ("_law_which" : Str) ∈ L.fs)
    (hok : (fnScopeB ["e", "own"] ["e"] (defScope (atS body r.i)) && isWhich (defBody (atS body r.i)) && whichSc (defScope (atS body r.i))) = true) (hcl : ∀ p ∈ L.cls, L.cn[p.1]? = some p.2)
    (hb : ∀ {fd : FuncData} {f : Addr}, FunD K r.x r.x (defArgs (atS body r.i)) (defBody (atS body r.i)) (defScope (atS body r.i)) [] [] f fd → Binds K fd ["e"] [])
    (hc : (excNames.all fun x => decide (x ∈ L.cs)) = true) (hp : ("PathError" : Str) ∈ L.cs) (hn : ∀ m : Fin 15, L.cn.getD (m.1 + 1) "" = excNames.getD m.1 "") (wb : whichB K = true) (hj : 1 ≤ j) :
    ∀ X : Cx, X.prog = P → X.w = w → X.K = K → X.mg = mg → X.base = base → Room j X.A → AskX X (L.gx K).ca := by
  simp only [Bool.and_eq_true] at hok
  obtain ⟨⟨h1, h2⟩, h3⟩ := hok
  obtain ⟨fd, FD⟩ := Y.says.def_ n (d := r.d body) (row_at hr)
  have FD : FunD K r.x r.x (defArgs (atS body r.i)) (defBody (atS body r.i)) (defScope (atS body r.i)) [] [] (He.ga K r.x) fd := FD
  have hb1 := hb FD
  rw [hx] at FD
  have mg1 : ∀ x ∈ L.cs, mg x = some (.ref (He.ga K x)) := fun x hx => He.glo_ok Y.kin Y.ns (Y.fact (List.mem_append_right _ (List.mem_append_right _ (List.mem_append_right _ (List.mem_append_right _ (List.mem_append_left _ (List.mem_map_of_mem hx)))))))
  refine ask_ok FD h1 h2 h3 hb1 (Y.glo hm) wb (fun x hx => mg1 x (of_decide_eq_true (List.all_eq_true.mp hc x hx))) (mg1 _ hp) (fun c c1 c2 => ?_) (Y.blt _ (by decide)) (Y.blt _ (by decide)) hj
  have := hn ⟨c - 1, by omega⟩
  dsimp only at this
  rw [show c - 1 + 1 = c by omega] at this
  show He.ga K (L.cn.getD c "") = _
  rw [this]
end Ap

end
section
/-! Equations of the evaluator, for use by simp. -/
namespace Ap
open PySem

section
variable {F : Nat → FnS} {r : Env}
@[simp] theorem ev_var (i : Nat) : ev F (.var i) r = rdVar r i := by rw [ev]
@[simp] theorem ev_lit (d : D) : ev F (.lit d) r = .ok (.dat d) r := by rw [ev]
@[simp] theorem ev_glb (x : Str) (d : D) : ev F (.glb x d) r = .ok (.dat d) r := by rw [ev]
@[simp] theorem ev_primS (o : Op) (es : List Ex) : ev F (.prim o es) r = (evs F es r).bind fun vs r1 => (R.of (views r1 vs) r1).bind fun ds _ => (R.of (prim o ds) r1).bind fun d _ => .ok (.dat d) r1 := by rw [ev]
@[simp] theorem ev_tup (es : List Ex) : ev F (.tup es) r = (evs F es r).bind fun vs r1 => (R.of (asDats r1 vs) r1).bind fun ds _ => if ds.length ≤ lim then .ok (.dat (.tuple ds)) r1 else .bad := by rw [ev]
@[simp] theorem ev_lst (es : List Ex) : ev F (.lst es) r = (evs F es r).bind fun vs r1 => (R.of (asDats r1 vs) r1).bind fun ds _ => if ds.length ≤ lim then .ok (.dat (.list ds)) r1 else .bad := by rw [ev]
@[simp] theorem ev_and (a b : Ex) : ev F (.andE a b) r = (ev F a r).bind fun v r1 => (asBool v r1).bind fun x _ => if x then ev F b r1 else .ok (.dat (.bool false)) r1 := by rw [ev]
@[simp] theorem ev_or (a b : Ex) : ev F (.orE a b) r = (ev F a r).bind fun v r1 => (asBool v r1).bind fun x _ => if x then .ok (.dat (.bool true)) r1 else ev F b r1 := by rw [ev]
@[simp] theorem ev_not (a : Ex) : ev F (.notE a) r = (ev F a r).bind fun v r1 => (asBool v r1).bind fun x _ => .ok (.dat (.bool (!x))) r1 := by rw [ev]
@[simp] theorem ev_ite (c a b : Ex) : ev F (.ite c a b) r = (ev F c r).bind fun v r1 => (asBool v r1).bind fun x _ => if x then ev F a r1 else ev F b r1 := by rw [ev]
@[simp] theorem ev_chain (o p : Op) (a b c : Ex) : ev F (.chain o p a b c) r = (ev F a r).bind fun va r1 => (ev F b r1).bind fun vb r2 =>
      (R.of (views r2 [va, vb]) r2).bind fun ds _ => (R.of (prim o ds) r2).bind fun d _ => (asBool (.dat d) r2).bind fun x _ =>
        if x then (ev F c r2).bind fun vc r3 => (R.of (views r3 [vb, vc]) r3).bind fun es _ => (R.of (prim p es) r3).bind fun e _ => .ok (.dat e) r3
        else .ok (.dat (.bool false)) r2 := by rw [ev]
@[simp] theorem ev_call (k : Nat) (es : List Ex) : ev F (.call k es) r = (evs F es r).bind fun vs r1 => callR (F k) vs r1 := by rw [ev]
@[simp] theorem ev_fnv (k : Nat) : ev F (.fnv k) r = .ok (.fn k) r := by rw [ev]
@[simp] theorem ev_callV (i : Nat) (ks : List Nat) (es : List Ex) : ev F (.callV i ks es) r = (R.of (inK ks (fnAt r i)) r).bind fun k _ => (evs F es r).bind fun vs r1 => callR (F k) vs r1 := by rw [ev]
@[simp] theorem ev_sel (ks : List Nat) (w : Ex) (es : List Ex) : ev F (.sel ks w es) r = (ev F w r).bind fun v r1 => (asDat v r1).bind fun d _ => (R.of (selK ks d) r1).bind fun k _ => (evs F es r1).bind fun vs r2 => callR (F k) vs r2 := by rw [ev]
@[simp] theorem ev_mk (k : Nat) (es : List Ex) : ev F (.mk k es) r = (evs F es r).bind fun vs r1 => (R.of (asDats r1 vs) r1).bind fun ds _ => mkR r1 (F k (ds.map .dat)) := by rw [ev]
@[simp] theorem ev_tix (a b : Ex) : ev F (.tix a b) r = (ev F a r).bind fun v r1 => (asDat v r1).bind fun d _ => (R.of (tixT d) r1).bind fun ds _ => (ev F b r1).bind fun w r2 => (asDat w r2).bind fun x _ => (R.of (indexT ds x) r2).bind fun i _ => .ok (.dat i) r2 := by rw [ev]
@[simp] theorem ev_dvals (i : Nat) : ev F (.dvals i) r = (R.of ((moOf r[i]?).bind dvalsM) r).bind fun d _ => .ok (.dat d) r := by rw [ev]
@[simp] theorem ev_dkeys (i : Nat) : ev F (.dkeys i) r = (R.of ((moOf r[i]?).bind dkeysM) r).bind fun d _ => .ok (.dat d) r := by rw [ev]
@[simp] theorem ev_pop (i : Nat) : ev F (.pop i) r = popL r i := by rw [ev]
@[simp] theorem ev_slen (i : Nat) : ev F (.slen i) r = (R.of (scrAt r i) r).bind fun ns _ => .ok (.dat (.int ns.length)) r := by rw [ev]
@[simp] theorem ev_sidx (i : Nat) (e : Ex) : ev F (.sidx i e) r = (R.of (scrAt r i) r).bind fun ns _ => (ev F e r).bind fun v r1 => (asDat v r1).bind fun d _ => (R.of (scrIx ns d) r1).bind fun k _ => .ok (.dat (.int k)) r1 := by rw [ev]
@[simp] theorem ev_snil (i : Nat) : ev F (.snil i) r = (R.of (scrAt r i) r).bind fun ns _ => .ok (.dat (.bool ns.isEmpty)) r := by rw [ev]
@[simp] theorem ev_dget (i : Nat) (k e : Ex) : ev F (.dget i k e) r = if isDct (moOf r[i]?) then (ev F k r).bind fun vk r1 => (asDat vk r1).bind fun kd _ => (ev F e r1).bind fun ve r2 => (asDat ve r2).bind fun ed _ => (R.of ((moOf r2[i]?).bind (dgetM · kd)) r2).bind fun od _ => .ok (.dat (od.getD ed)) r2 else .bad := by rw [ev]
@[simp] theorem ev_didx (i : Nat) (k : Ex) : ev F (.didx i k) r = if isDct (moOf r[i]?) then (ev F k r).bind fun vk r1 => (asDat vk r1).bind fun kd _ => (R.of (((moOf r1[i]?).bind (dgetM · kd)).join) r1).bind fun d _ => .ok (.dat d) r1 else .bad := by rw [ev]
@[simp] theorem ev_fld (i : Nat) (f : Fl) : ev F (.fld i f) r = (R.of ((moOf r[i]?).bind (fldM f)) r).bind fun d _ => .ok (.dat d) r := by rw [ev]
@[simp] theorem ev_flen (i : Nat) : ev F (.flen i) r = (R.of ((moOf r[i]?).bind stM) r).bind fun st _ => .ok (.dat (.int st.length)) r := by rw [ev]
@[simp] theorem ev_fpop (i : Nat) : ev F (.fpop i) r = fpopL r i := by rw [ev]
@[simp] theorem ev_meth (k i : Nat) (es : List Ex) : ev F (.meth k i es) r = if isRt (moOf r[i]?) then (evs F es r).bind fun vs r1 => if isRt (moOf r1[i]?) then callR (F k) (.own i :: vs) r1 else .bad else .bad := by rw [ev]
@[simp] theorem ev_rlen (k i : Nat) : ev F (.rlen k i) r = if isRt (moOf r[i]?) then asLen (callR (F k) [.own i] r) else .bad := by rw [ev]
@[simp] theorem ev_rstr (k i : Nat) : ev F (.rstr k i) r = if isRt (moOf r[i]?) then asTxt (callR (F k) [.own i] r) else .bad := by rw [ev]
@[simp] theorem ev_req (k i j : Nat) (neg : Bool) : ev F (.req k i j neg) r = if isRt (moOf r[i]?) && isRt (moOf r[j]?) then asTruth neg (callR (F k) [.own i, .own j] r) else .bad := by rw [ev]
@[simp] theorem ev_reqD (k i : Nat) (e : Ex) : ev F (.reqD k i e) r = if isRt (moOf r[i]?) then (ev F e r).bind fun v r1 => (asDat v r1).bind fun d _ => if isRt (moOf r1[i]?) then asTruth false (callR (F k) [.own i, .dat d] r1) else .bad else .bad := by rw [ev]
@[simp] theorem ev_isR (i : Nat) : ev F (.isR i) r = (R.of (isRO r[i]?) r).bind fun b _ => .ok (.dat (.bool b)) r := by rw [ev]
@[simp] theorem run_mkS (i : Nat) (es : List Ex) : run F (.mkS i es) r = (evs F es r).st fun vs r1 => (R.of (asDats r1 vs) r1).st fun ds _ => mkRt r1 i ds (F 900 (ds.map .dat)) := by rw [run]
@[simp] theorem run_setf (i : Nat) (f : Fl) (e : Ex) : run F (.setf i f e) r = (ev F e r).st fun v r1 => (asDat v r1).st fun d _ => RS.of (setfD r1 i f d) := by rw [run]
@[simp] theorem run_fapp (i n : Nat) : run F (.fapp i n) r = (rdVar r n).st fun v _ => (asDat v r).st fun d _ => RS.of (fappD r i d) := by rw [run]
@[simp] theorem evs_nilS : evs F [] r = .ok [] r := by rw [evs]
@[simp] theorem evs_consS (e : Ex) (es : List Ex) : evs F (e :: es) r = (ev F e r).bind fun v r1 => (evs F es r1).bind fun vs r2 => .ok (v :: vs) r2 := by rw [evs]
@[simp] theorem evc_nil : evc F [] r = .ok true r := by rw [evc]
@[simp] theorem evc_one (e : Ex) : evc F [e] r = (ev F e r).bind fun v r1 => asBool v r1 := by rw [evc]
@[simp] theorem evIt_seq (e : Ex) : evIt F (.seq e) r = (ev F e r).bind fun v r1 => (frz r1 v).bind fun d r2 => (R.of (itemsD d) r2) := by rw [evIt]
@[simp] theorem evIt_rng (es : List Ex) : evIt F (.rng es) r = (evs F es r).bind fun vs r1 => (R.of (asDats r1 vs) r1).bind fun ds _ => R.of (rngItems ds) r1 := by rw [evIt]
@[simp] theorem evIt_zip (es : List Ex) : evIt F (.zip es) r = (evs F es r).bind fun vs r1 => (frzs r1 vs).bind fun ds r2 => R.of (zipItems ds) r2 := by rw [evIt]
@[simp] theorem evIt_enum (e : Ex) : evIt F (.enum e) r = (ev F e r).bind fun v r1 => (frz r1 v).bind fun d r2 => (R.of (enumItems d) r2) := by rw [evIt]
@[simp] theorem run_newD (i : Nat) (b : Bool) : run F (.newD i b) r = RS.of (setS r i (.own (if b then .dci [] else .dct []))) := by rw [run]
@[simp] theorem run_newD1 (i : Nat) (k e : Ex) : run F (.newD1 i k e) r = (ev F k r).st fun vk r1 => (asDat vk r1).st fun kd _ => (ev F e r1).st fun ve r2 => (asDat ve r2).st fun d _ => RS.of ((dkey kd).bind fun key => setS r2 i (.own (.dct [(key, d)]))) := by rw [run]
@[simp] theorem run_dput (i : Nat) (k e : Ex) : run F (.dput i k e) r = (ev F e r).st fun v r1 => (asDat v r1).st fun d _ => if isDct (moOf r1[i]?) then (ev F k r1).st fun w r2 => (asDat w r2).st fun kd _ => RS.of ((moOf r2[i]?).bind fun o => (dputM o kd d).map fun o' => putMo r2 i o') else .bad := by rw [run]
@[simp] theorem run_asg (tg : Tg) (e : Ex) : run F (.asg tg e) r = (ev F e r).st fun v r1 => RS.of (assignV r1 tg v) := by rw [run]
@[simp] theorem run_new (i : Nat) (e : Ex) : run F (.new i e) r = (ev F e r).st fun v r1 => (asDat v r1).st fun d _ => RS.of ((ownMO d).bind fun o => setS r1 i (.own o)) := by rw [run]
@[simp] theorem run_par3 (i j l : Nat) (a b c : Ex) : run F (.par3 i j l a b c) r = (ev F a r).st fun v r1 => (asDat v r1).st fun d1 _ => (ev F b r1).st fun w r2 => (asDat w r2).st fun d2 _ => (ev F c r2).st fun u r3 => (asDat u r3).st fun d3 _ => RS.of ((setS r3 i (.dat d1)).bind fun r4 => (setS r4 j (.dat d2)).bind fun r5 => setS r5 l (.dat d3)) := by rw [run]
@[simp] theorem run_par (i j : Nat) (oi oj : Bool) (a b : Ex) : run F (.par i j oi oj a b) r = (ev F a r).st fun v r1 => if shp oi v then (ev F b r1).st fun w r2 => if shp oj w then RS.of ((parOne r2 i oi v).bind fun r3 => parOne r3 j oj w) else .bad else .bad := by rw [run]
@[simp] theorem run_aug (o : Op) (i : Nat) (e : Ex) : run F (.aug o i e) r = (rdVar r i).st fun v _ => (ev F e r).st fun w r1 => (R.of (views r1 [v, w]) r1).st fun ds _ => (R.of (prim o ds) r1).st fun d _ => RS.of (setS r1 i (.dat d)) := by rw [run]
@[simp] theorem run_app (i : Nat) (e : Ex) : run F (.app i e) r = if isLst r i then (ev F e r).st fun v r1 => (asDat v r1).st fun d _ => RS.of (appD r1 i d) else .bad := by rw [run]
@[simp] theorem run_ext (i : Nat) (e : Ex) : run F (.ext i e) r = if isLst r i then (ev F e r).st fun v r1 => (asDat v r1).st fun d _ => RS.of (extD r1 i d) else .bad := by rw [run]
@[simp] theorem run_rem (i : Nat) (e : Ex) : run F (.rem i e) r = if isLst r i then (ev F e r).st fun v r1 => (asDat v r1).st fun d _ => RS.of (remD r1 i d) else .bad := by rw [run]
@[simp] theorem run_seti (i : Nat) (k e : Ex) : run F (.seti i k e) r = (ev F e r).st fun v r1 => (asDat v r1).st fun d _ => if isLst r1 i then (ev F k r1).st fun w r2 => (asDat w r2).st fun kd _ => RS.of (setiD r2 i kd d) else .bad := by rw [run]
@[simp] theorem run_exp (e : Ex) : run F (.exp e) r = (ev F e r).st fun _ r1 => .nx r1 := by rw [run]
@[simp] theorem run_ret (e : Ex) : run F (.ret e) r = (ev F e r).st fun v r1 => retV r1 v := by rw [run]
@[simp] theorem run_ite (c : Ex) (a b : List Sm) : run F (.ite c a b) r = (ev F c r).st fun v r1 => (asBool v r1).st fun x _ => if x then runs F a r1 else runs F b r1 := by rw [run]
theorem run_for (tg : Tg) (it : It) (b : List Sm) : run F (.forS tg it b) r = (evIt F it r).st fun ds r1 => forGo (fun d q => (R.of (bindTg q tg d) q).st fun q1 _ => runs F b q1) ds r1 := by rw [run]
theorem run_whl (n : Nat) (c : Ex) (b : List Sm) : run F (.whl n c b) r = whlGo (fun q => (ev F c q).bind asBool) (runs F b) n r := by rw [run]
@[simp] theorem run_brk : run F .brk r = .brk r := by rw [run]
@[simp] theorem run_cnt : run F .cnt r = .cnt r := by rw [run]
@[simp] theorem run_pass : run F .pass r = .nx r := by rw [run]
@[simp] theorem run_askO (i : Nat) (b : List Sm) : run F (.askO i b) r = askO i (runs F b r) := by rw [run]
@[simp] theorem run_ask (i : Nat) (b : List Sm) : run F (.ask i b) r = askR i (runs F b r) := by rw [run]
@[simp] theorem run_selS (i : Nat) (ks : List Nat) (w : Ex) (es : List Ex) : run F (.selS i ks w es) r = if isNil r i then (ev F (.sel ks w es) r).st fun v r1 => retV r1 v else .bad := by rw [run]
@[simp] theorem run_put2 (i s j ri : Nat) (c1 c2 v : Int) : run F (.put2 i s j ri c1 c2 v) r = if isNil r i && decide (ri < r.length) then (rdVar r s).st fun a _ => (asDat a r).st fun d _ => (rdVar r j).st fun u _ => (R.of (view r u) r).st fun pd _ => (R.of (put2P d pd c1 c2 v) r).st fun z _ => RS.of (setS r i (.dat z)) else .bad := by rw [run]
@[simp] theorem run_raise (c : Nat) : run F (.raise c) r = .exc c r := by rw [run]
@[simp] theorem runs_nil : runs F [] r = .nx r := by rw [runs]
@[simp] theorem runs_cons (s : Sm) (ss : List Sm) : runs F (s :: ss) r = (run F s r).bind fun r1 => runs F ss r1 := by rw [runs]
end
/-! values, slots -/
@[simp] theorem view_dat (r : Env) (d : D) : view r (.dat d) = some d := id rfl
@[simp] theorem view_own (r : Env) (i : Nat) : view r (.own i) = (moOf r[i]?).bind MO.dat := id rfl
@[simp] theorem views_nil (r : Env) : views r [] = some [] := id rfl
@[simp] theorem views_cons (r : Env) (v : Vl) (vs : List Vl) : views r (v :: vs) = (view r v).bind fun d => (views r vs).map (d :: ·) := id rfl
@[simp] theorem asDats_nil (r : Env) : asDats r [] = some [] := id rfl
@[simp] theorem asDats_dat (r : Env) (d : D) (vs : List Vl) : asDats r (.dat d :: vs) = (asDats r vs).map (d :: ·) := id rfl
@[simp] theorem asDat_dat (r : Env) (d : D) : asDat (.dat d) r = .ok d r := id rfl
@[simp] theorem asBool_dat (r : Env) (b : Bool) : asBool (.dat (.bool b)) r = .ok b r := id rfl
@[simp] theorem moOf_own (o : MO) : moOf (some (some (.own o))) = some o := id rfl
@[simp] theorem moOf_bor (o : MO) : moOf (some (some (.bor o))) = some o := id rfl
@[simp] theorem dat_lst (ds : List D) : (MO.lst ds).dat = some (.list ds) := id rfl
@[simp] theorem frzs_nil (r : Env) : frzs r [] = .ok [] r := id rfl
@[simp] theorem frzs_cons (r : Env) (v : Vl) (vs : List Vl) : frzs r (v :: vs) = (frz r v).bind fun d r1 => (frzs r1 vs).bind fun ds r2 => .ok (d :: ds) r2 := id rfl
@[simp] theorem seqD_list (ds : List D) : seqD (.list ds) = some ds := id rfl
@[simp] theorem seqD_tuple (ds : List D) : seqD (.tuple ds) = some ds := id rfl
@[simp] theorem zipItems_two (a b : D) : zipItems [a, b] = (seqD a).bind fun x => (seqD b).map fun y => zip2 x y := id rfl
@[simp] theorem zipItems_three (a b c : D) : zipItems [a, b, c] = (seqD a).bind fun x => (seqD b).bind fun y => (seqD c).map fun z => zip3 x y z := id rfl
@[simp] theorem enumItems_eq (d : D) : enumItems d = (seqD d).map (enumFrom 0) := id rfl
@[simp] theorem isDct_dct (kvs : List (List Int × D)) : isDct (some (.dct kvs)) = true := id rfl
@[simp] theorem isDct_dci (kvs : List (Int × D)) : isDct (some (.dci kvs)) = true := id rfl
@[simp] theorem dkey_tuple (ds : List D) : dkey (.tuple ds) = intsD ds := id rfl
@[simp] theorem intsD_nil : intsD [] = some [] := id rfl
@[simp] theorem intsD_cons (i : Int) (ds : List D) : intsD (.int i :: ds) = (intsD ds).map (i :: ·) := id rfl
@[simp] theorem dgetM_dct (kvs : List (List Int × D)) (d : D) : dgetM (.dct kvs) d = (dkey d).map (valI kvs) := id rfl
@[simp] theorem dgetM_dci (kvs : List (Int × D)) (i : Int) : dgetM (.dci kvs) (.int i) = some (valI kvs i) := id rfl
theorem dputM_dct {kvs : List (List Int × D)} {d v : D} (h : kvs.length < 1000000) : dputM (.dct kvs) d v = (dkey d).map fun k => .dct (putI kvs k v) := by
  show ((dkey d).bind fun k => if kvs.length < lim then some (MO.dct (putI kvs k v)) else none) = _
  have : kvs.length < lim := Nat.lt_trans h (by decide)
  cases dkey d with
  | none => rfl
  | some k => exact if_pos this
theorem dputM_dci {kvs : List (Int × D)} {i : Int} {v : D} (h : kvs.length < 1000000) : dputM (.dci kvs) (.int i) v = some (.dci (putI kvs i v)) := if_pos (Nat.lt_trans h (by decide))
@[simp] theorem frz_dat (r : Env) (d : D) : frz r (.dat d) = .ok d r := id rfl
@[simp] theorem items_list (ds : List D) : itemsD (.list ds) = some ds := id rfl
@[simp] theorem items_tuple (ds : List D) : itemsD (.tuple ds) = some ds := id rfl
@[simp] theorem bindTg_one (r : Env) (i : Nat) (d : D) : bindTg r (.one i) d = setS r i (.dat d) := id rfl
@[simp] theorem bindTg_many (r : Env) (is : List Nat) (ds : List D) : bindTg r (.many is) (.tuple ds) = setMany r is ds := id rfl
@[simp] theorem setMany_nil (r : Env) : setMany r [] [] = some r := id rfl
@[simp] theorem setMany_cons (r : Env) (i : Nat) (is : List Nat) (d : D) (ds : List D) : setMany r (i :: is) (d :: ds) = (setS r i (.dat d)).bind fun r' => setMany r' is ds := id rfl
@[simp] theorem assignV_dat (r : Env) (tg : Tg) (d : D) : assignV r tg (.dat d) = bindTg r tg d := by cases tg <;> rfl
@[simp] theorem isBor_none : isBor none = false := id rfl
@[simp] theorem isBor_snone : isBor (some none) = false := id rfl
@[simp] theorem isBor_dat (d : D) : isBor (some (some (.dat d))) = false := id rfl
@[simp] theorem isBor_own (o : MO) : isBor (some (some (.own o))) = false := id rfl
@[simp] theorem isBor_fn (k : Nat) : isBor (some (some (.fn k))) = false := id rfl
@[simp] theorem isBor_bor (o : MO) : isBor (some (some (.bor o))) = true := id rfl
@[simp] theorem ownMO_list (ds : List D) : ownMO (.list ds) = some (.lst ds) := id rfl
@[simp] theorem retV_dat (r : Env) (d : D) : retV r (.dat d) = .ret d r := id rfl
@[simp] theorem argsOf_nil (r : Env) : argsOf r [] = some [] := id rfl
@[simp] theorem argsOf_cons (r : Env) (v : Vl) (vs : List Vl) : argsOf r (v :: vs) = (argOf r v).bind fun s => (argsOf r vs).map (s :: ·) := id rfl
@[simp] theorem argOf_dat (r : Env) (d : D) : argOf r (.dat d) = some (.dat d) := id rfl
@[simp] theorem argOf_own (r : Env) (i : Nat) : argOf r (.own i) = (moOf r[i]?).map .bor := id rfl
@[simp] theorem argOf_scr (r : Env) (ns : List Int) : argOf r (.scr ns) = some (.scr ns) := id rfl
@[simp] theorem argOf_fn (r : Env) (k : Nat) : argOf r (.fn k) = some (.fn k) := id rfl
@[simp] theorem ownIx_nil : ownIx [] = [] := id rfl
@[simp] theorem ownIx_own (i : Nat) (vs : List Vl) : ownIx (.own i :: vs) = i :: ownIx vs := id rfl
@[simp] theorem ownIx_dat (d : D) (vs : List Vl) : ownIx (.dat d :: vs) = ownIx vs := id rfl
@[simp] theorem ownIx_scr (d : List Int) (vs : List Vl) : ownIx (.scr d :: vs) = ownIx vs := id rfl
@[simp] theorem ownIx_fn (d : Nat) (vs : List Vl) : ownIx (.fn d :: vs) = ownIx vs := id rfl
@[simp] theorem wb_nil (r : Env) (ss : List Slot) : writeBack r [] ss = r := id rfl
@[simp] theorem wb_own (r : Env) (i : Nat) (o : MO) (vs : List Vl) (ss : List Slot) : writeBack r (.own i :: vs) (.bor o :: ss) = writeBack (putMo r i o) vs ss := id rfl
@[simp] theorem wb_dat (r : Env) (d : D) (s : Slot) (vs : List Vl) (ss : List Slot) : writeBack r (.dat d :: vs) (s :: ss) = writeBack r vs ss := id rfl
@[simp] theorem wb_scr (r : Env) (d : List Int) (s : Slot) (vs : List Vl) (ss : List Slot) : writeBack r (.scr d :: vs) (s :: ss) = writeBack r vs ss := id rfl
@[simp] theorem wb_fn (r : Env) (d : Nat) (s : Slot) (vs : List Vl) (ss : List Slot) : writeBack r (.fn d :: vs) (s :: ss) = writeBack r vs ss := id rfl
def rdO (r : Env) (i : Nat) : Option (Option Slot) → R Vl
  | some (some (.dat d)) => .ok (.dat d) r
  | some (some (.own _)) => .ok (.own i) r
  | some (some (.bor _)) => .ok (.own i) r
  | some (some (.fn k)) => .ok (.fn k) r
  | some (some (.scr ns)) => .ok (.scr ns) r
  | _ => .bad
@[simp] theorem rdVar_eq (r : Env) (i : Nat) : rdVar r i = rdO r i r[i]? := by
  unfold rdVar rdO
  split <;> simp_all
@[simp] theorem rdO_dat (r : Env) (i : Nat) (d : D) : rdO r i (some (some (.dat d))) = .ok (.dat d) r := id rfl
@[simp] theorem rdO_own (r : Env) (i : Nat) (d : MO) : rdO r i (some (some (.own d))) = .ok (.own i) r := id rfl
@[simp] theorem rdO_bor (r : Env) (i : Nat) (d : MO) : rdO r i (some (some (.bor d))) = .ok (.own i) r := id rfl
@[simp] theorem rdO_fn (r : Env) (i : Nat) (d : Nat) : rdO r i (some (some (.fn d))) = .ok (.fn d) r := id rfl
@[simp] theorem rdO_scr (r : Env) (i : Nat) (d : List Int) : rdO r i (some (some (.scr d))) = .ok (.scr d) r := id rfl
def scrO : Option (Option Slot) → Option (List Int)
  | some (some (.scr ns)) => some ns
  | _ => none
@[simp] theorem scrAt_eq (r : Env) (i : Nat) : scrAt r i = scrO r[i]? := by
  unfold scrAt scrO
  split <;> simp_all
@[simp] theorem scrO_scr (ns : List Int) : scrO (some (some (.scr ns))) = some ns := id rfl
def setO (r : Env) (i : Nat) (s : Slot) : Bool → Option Env
  | true => none
  | false => some (r.set i (some s))
@[simp] theorem setS_eq (r : Env) (i : Nat) (s : Slot) : setS r i s = setO r i s (isBor r[i]?) := by
  unfold setS
  cases isBor r[i]? <;> rfl
@[simp] theorem setO_false (r : Env) (i : Nat) (s : Slot) : setO r i s false = some (r.set i (some s)) := id rfl
@[simp] theorem isBor_scr (k : List Int) : isBor (some (some (.scr k))) = false := id rfl
def putO (r : Env) (i : Nat) (o : MO) : Option (Option Slot) → Env
  | some (some (.own _)) => r.set i (some (.own o))
  | some (some (.bor _)) => r.set i (some (.bor o))
  | _ => r
@[simp] theorem putMo_eq (r : Env) (i : Nat) (o : MO) : putMo r i o = putO r i o r[i]? := by
  unfold putMo putO
  split <;> simp_all
@[simp] theorem putO_own (r : Env) (i : Nat) (o p : MO) : putO r i o (some (some (.own p))) = r.set i (some (.own o)) := id rfl
@[simp] theorem putO_bor (r : Env) (i : Nat) (o p : MO) : putO r i o (some (some (.bor p))) = r.set i (some (.bor o)) := id rfl
def isLstO : Option MO → Bool
  | some (.lst _) => true
  | _ => false
@[simp] theorem isLst_eq (r : Env) (i : Nat) : isLst r i = isLstO (moOf r[i]?) := by
  unfold isLst isLstO
  split <;> simp_all
@[simp] theorem isLstO_lst (ds : List D) : isLstO (some (.lst ds)) = true := id rfl
def appO (r : Env) (i : Nat) (d : D) : Option MO → Option Env
  | some (.lst ds) => if ds.length < lim then some (putMo r i (.lst (ds ++ [d]))) else none
  | _ => none
@[simp] theorem appD_eq (r : Env) (i : Nat) (d : D) : appD r i d = appO r i d (moOf r[i]?) := by
  unfold appD appO
  split <;> simp_all
theorem appO_lst {r : Env} {i : Nat} {d : D} {ds : List D} (h : ds.length < 1000000) : appO r i d (some (.lst ds)) = some (putMo r i (.lst (ds ++ [d]))) := if_pos (Nat.lt_trans h (by decide))
def extO (r : Env) (i : Nat) : Option MO → D → Option Env
  | some (.lst ds), .list es => if ds.length + es.length ≤ lim then some (putMo r i (.lst (ds ++ es))) else none
  | _, _ => none
@[simp] theorem extD_eq (r : Env) (i : Nat) (d : D) : extD r i d = extO r i (moOf r[i]?) d := by
  unfold extD extO
  split <;> simp_all
theorem extO_lst {r : Env} {i : Nat} {ds es : List D} (h : ds.length + es.length ≤ 1000000) : extO r i (some (.lst ds)) (.list es) = some (putMo r i (.lst (ds ++ es))) := if_pos (Nat.le_trans h (by decide))
def frzO (r : Env) (i : Nat) : Option (Option Slot) → R D
  | some (some (.own (.lst ds))) => .ok (.list ds) (r.set i (some (.dat (.list ds))))
  | some (some (.own (.ll rows))) => .ok (.list (rows.map .list)) (r.set i (some (.dat (.list (rows.map .list)))))
  | _ => .bad
@[simp] theorem frzO_ll (r : Env) (i : Nat) (rows : List (List D)) : frzO r i (some (some (.own (.ll rows)))) = .ok (.list (rows.map .list)) (r.set i (some (.dat (.list (rows.map .list))))) := id rfl
@[simp] theorem frz_own (r : Env) (i : Nat) : frz r (.own i) = frzO r i r[i]? := by
  show (match r[i]? with
    | some (some (.own (.lst ds))) => R.ok (PyData.list ds) (r.set i (some (.dat (.list ds))))
    | some (some (.own (.ll rows))) => .ok (.list (rows.map .list)) (r.set i (some (.dat (.list (rows.map .list)))))
    | _ => .bad) = _
  unfold frzO
  split <;> simp_all
@[simp] theorem frzO_own (r : Env) (i : Nat) (ds : List D) : frzO r i (some (some (.own (.lst ds)))) = .ok (.list ds) (r.set i (some (.dat (.list ds)))) := id rfl
def retO (r : Env) : Option (Option Slot) → RS
  | some (some (.own (.lst ds))) => .ret (.list ds) r
  | _ => .bad
@[simp] theorem retV_own (r : Env) (i : Nat) : retV r (.own i) = retO r r[i]? := by
  show (match r[i]? with
    | some (some (.own (.lst ds))) => RS.ret (PyData.list ds) r
    | _ => .bad) = _
  unfold retO
  split <;> simp_all
@[simp] theorem retO_own (r : Env) (ds : List D) : retO r (some (some (.own (.lst ds)))) = .ret (.list ds) r := id rfl
def callO (f : FnS) (vs : List Vl) (r : Env) : Option (List Slot) → R Vl
  | none => .bad
  | some as => if (ownIx vs).Nodup then (callQ vs r (f as)) else .bad
where callQ (vs : List Vl) (r : Env) : FR → R Vl
  | .ret d outs => .ok (.dat d) (writeBack r vs outs)
  | .exc c outs => .exc c (writeBack r vs outs)
  | .bad => .bad
@[simp] theorem callR_eq (f : FnS) (vs : List Vl) (r : Env) : callR f vs r = callO f vs r (argsOf r vs) := by
  unfold callR
  cases argsOf r vs with
  | none => rfl
  | some as =>
    show (if (ownIx vs).Nodup then _ else _) = (if (ownIx vs).Nodup then _ else _)
    by_cases h : (ownIx vs).Nodup
    · rw [if_pos h, if_pos h]
      cases f as <;> rfl
    · rw [if_neg h, if_neg h]
@[simp] theorem callO_some (f : FnS) (vs : List Vl) (r : Env) (as : List Slot) : callO f vs r (some as) = if (ownIx vs).Nodup then (callO.callQ vs r (f as)) else .bad := id rfl
@[simp] theorem callQ_ret (vs : List Vl) (r : Env) (d : D) (outs : List Slot) : callO.callQ vs r (.ret d outs) = .ok (.dat d) (writeBack r vs outs) := id rfl
@[simp] theorem callQ_exc (vs : List Vl) (r : Env) (d : Nat) (outs : List Slot) : callO.callQ vs r (.exc d outs) = .exc d (writeBack r vs outs) := id rfl
@[simp] theorem shp_true (ds : List D) : shp true (.dat (.list ds)) = true := id rfl
@[simp] theorem shp_false (d : D) : shp false (.dat d) = true := id rfl
@[simp] theorem parOne_false (r : Env) (i : Nat) (d : D) : parOne r i false (.dat d) = setS r i (.dat d) := id rfl
@[simp] theorem parOne_true (r : Env) (i : Nat) (ds : List D) : parOne r i true (.dat (.list ds)) = setS r i (.own (.lst ds)) := id rfl
def finR (m : Nat) : RS → FR
  | .nx r => .ret .none (outsOf m r)
  | .ret d r => .ret d (outsOf m r)
  | .exc c r => .exc c (outsOf m r)
  | _ => .bad
theorem defR_eq (F : Nat → FnS) (m n : Nat) (b : List Sm) (as : List Slot) : defR F m n b as = if as.length = m then finR m (runs F b (as.map some ++ List.replicate (n - m) none)) else .bad := by
  show (if as.length = m then _ else _) = (if as.length = m then _ else _)
  by_cases h : as.length = m
  · rw [if_pos h, if_pos h]
    cases runs F b (as.map some ++ List.replicate (n - m) none) <;> rfl
  · rw [if_neg h, if_neg h]
@[simp] theorem finR_nx (m : Nat) (r : Env) : finR m (.nx r) = .ret .none (outsOf m r) := id rfl
@[simp] theorem finR_ret (m : Nat) (d : D) (r : Env) : finR m (.ret d r) = .ret d (outsOf m r) := id rfl
@[simp] theorem finR_exc (m : Nat) (c : Nat) (r : Env) : finR m (.exc c r) = .exc c (outsOf m r) := id rfl
/-! operators -/
@[simp] theorem prim_add (i j : Int) : prim .add [.int i, .int j] = some (.int (i + j)) := id rfl
@[simp] theorem prim_sub (i j : Int) : prim .sub [.int i, .int j] = some (.int (i - j)) := id rfl
@[simp] theorem prim_neg (i : Int) : prim .neg [.int i] = some (.int (-i)) := id rfl
@[simp] theorem prim_lt (i j : Int) : prim .lt [.int i, .int j] = some (.bool (decide (i < j))) := id rfl
@[simp] theorem prim_le (i j : Int) : prim .le [.int i, .int j] = some (.bool (decide (i ≤ j))) := id rfl
@[simp] theorem prim_gt (i j : Int) : prim .gt [.int i, .int j] = some (.bool (decide (j < i))) := id rfl
@[simp] theorem prim_ge (i j : Int) : prim .ge [.int i, .int j] = some (.bool (decide (j ≤ i))) := id rfl
@[simp] theorem prim_lenL (ds : List D) : prim .len [.list ds] = some (.int ds.length) := id rfl
@[simp] theorem prim_lenT (ds : List D) : prim .len [.tuple ds] = some (.int ds.length) := id rfl
@[simp] theorem prim_tupL (ds : List D) : prim .tupOf [.list ds] = some (.tuple ds) := id rfl
@[simp] theorem prim_tupT (ds : List D) : prim .tupOf [.tuple ds] = some (.tuple ds) := id rfl
@[simp] theorem prim_listL (ds : List D) : prim .listOf [.list ds] = some (.list ds) := id rfl
@[simp] theorem prim_listT (ds : List D) : prim .listOf [.tuple ds] = some (.list ds) := id rfl
@[simp] theorem prim_isi (t : Ty) (d : D) : prim (.isi t) [d] = some (.bool (isiD t d)) := id rfl
@[simp] theorem prim_min2 (i j : Int) : prim .min2 [.int i, .int j] = some (.int (if j < i then j else i)) := id rfl
@[simp] theorem prim_max2 (i j : Int) : prim .max2 [.int i, .int j] = some (.int (if j > i then j else i)) := id rfl
@[simp] theorem prim_addI (i j : Int) : prim .addI [.int i, .int j] = some (.int (i + j)) := id rfl
@[simp] theorem prim_idxL (ds : List D) (i : Int) : prim .idx [.list ds, .int i] = L2.atI ds i := id rfl
@[simp] theorem prim_idxT (ds : List D) (i : Int) : prim .idx [.tuple ds, .int i] = L2.atI ds i := id rfl
theorem prim_mul {i j : Int} (h : (smallI i || smallI j) = true) : prim .mul [.int i, .int j] = some (.int (i * j)) := by
  show (if (smallI i || smallI j || (wideI i && wideI j)) = true then _ else _) = _
  rw [if_pos (by rw [h, Bool.true_or])]
theorem prim_mulX {i j : Int} (h1 : wideI i = true) (h2 : wideI j = true) : prim .mul [.int i, .int j] = some (.int (i * j)) := by
  show (if (smallI i || smallI j || (wideI i && wideI j)) = true then _ else _) = _
  rw [if_pos (by rw [h1, h2, Bool.and_self, Bool.or_true])]
theorem prim_fdiv {i j : Int} (h1 : 0 < j) (h2 : j < 1073741824) : prim .fdiv [.int i, .int j] = some (.int (i / j)) := by show (if _ then _ else _) = _; rw [if_pos ⟨h1, (Nat.log2_lt (by omega)).mpr (Nat.lt_of_lt_of_le (show j.natAbs < 2 ^ 30 by omega) (Nat.pow_le_pow_right (by decide) (by decide)))⟩]
theorem prim_mod {i j : Int} (h1 : 0 < j) : prim .mod [.int i, .int j] = some (.int (i % j)) := by show (if _ then _ else _) = _; rw [if_pos h1]
theorem prim_pow {i j : Int} (h1 : 0 ≤ j) (h2 : j ≤ 1000000) (h3 : i.natAbs < 2 ^ 64) : prim .pow [.int i, .int j] = some (.int (i ^ j.toNat)) := by show (if _ then _ else _) = _; rw [if_pos ⟨h1, h2, h3⟩]
theorem prim_eq {a b : D} (h : (okP a || okP b) = true) : prim .eq [a, b] = some (.bool (PyData.eqv a b)) := by show (if _ then _ else _) = _; rw [if_pos h]
theorem prim_ne {a b : D} (h : (okP a || okP b) = true) : prim .ne [a, b] = some (.bool (!PyData.eqv a b)) := by show (if _ then _ else _) = _; rw [if_pos h]
theorem prim_addT {a b : List D} (h : a.length + b.length ≤ lim) : prim .add [.tuple a, .tuple b] = some (.tuple (a ++ b)) := by show (if _ then _ else _) = _; rw [if_pos h]
theorem prim_addL {a b : List D} (h : a.length + b.length ≤ lim) : prim .add [.list a, .list b] = some (.list (a ++ b)) := by show (if _ then _ else _) = _; rw [if_pos h]
@[simp] theorem lim_val : lim = 16777216 := id rfl

/-! ### loops -/
theorem forGo_fold {S : Type} (env : S → Env) (I : S → Prop) (step : S → D → S) (b : D → Env → RS) : ∀ (ds : List D) (s : S), I s → (∀ s, I s → ∀ d ∈ ds, b d (env s) = .nx (env (step s d)) ∧ I (step s d)) → forGo b ds (env s) = .nx (env (ds.foldl step s)) ∧ I (ds.foldl step s)
  | [], s, hi, _ => ⟨rfl, hi⟩
  | d :: ds, s, hi, h => by
    obtain ⟨h1, h2⟩ := h s hi d (List.mem_cons_self ..)
    have ih := forGo_fold env I step b ds (step s d) h2 fun s hs e he => h s hs e (List.mem_cons_of_mem _ he)
    refine ⟨?_, ih.2⟩
    show (match b d (env s) with | .nx r1 => forGo b ds r1 | .cnt r1 => forGo b ds r1 | .brk r1 => .nx r1 | x => x) = _
    rw [h1]
    exact ih.1
/-- a comprehension whose parts change nothing -/
theorem wipe_one (r : Env) (i : Nat) : wipeE r [i] = r.set i none := rfl
theorem lcGo_pure {α : Type} (enc : α → D) {F : Nat → FnS} {elt : Ex} {tg : Tg} {cond : List Ex} {r1 : Env} (g : α → Option D) : ∀ (ds : List α) (acc : List D) (q : Env), wipeE q tg.slots = wipeE r1 tg.slots →
    (∀ d ∈ ds, ∃ q1 q2 q3, bindTg (wipeE r1 tg.slots) tg (enc d) = some q1 ∧ wipeE q2 tg.slots = wipeE r1 tg.slots ∧ wipeE q3 tg.slots = wipeE r1 tg.slots ∧ ∃ c, evc F cond q1 = .ok c q2 ∧ (if c then ∃ y, g d = some y ∧ ev F elt q2 = .ok (.dat y) q3 else g d = none)) →
    ∃ q', wipeE q' tg.slots = wipeE r1 tg.slots ∧ lcGo (fun d q => (R.of (bindTg (wipeE q tg.slots) tg d) q).bind fun q1 _ => (evc F cond q1).bind fun x q2 =>
          if x then (ev F elt q2).bind fun v q3 => (asDat v q3).bind fun y _ => .ok (some y) q3 else .ok none q2) (ds.map enc) acc q = .ok (acc ++ ds.filterMap g) q'
  | [], acc, q, hq, _ => ⟨q, hq, by simp [lcGo]⟩
  | d :: ds, acc, q, hq, h => by
    obtain ⟨q1, q2, q3, h1, h2, h3, c, h4, h5⟩ := h d (List.mem_cons_self ..)
    cases c with
    | true =>
      obtain ⟨y, h6, h7⟩ := h5
      obtain ⟨q', z1, z2⟩ := lcGo_pure enc g ds (acc ++ [y]) q3 h3 fun e he => h e (List.mem_cons_of_mem _ he)
      refine ⟨q', z1, ?_⟩
      rw [List.map_cons, lcGo, hq, h1, R.of_some, R.bind_ok, h4, R.bind_ok, if_pos rfl, h7, R.bind_ok, asDat_dat, R.bind_ok, R.bind_ok]
      rw [List.filterMap_cons, h6]
      simp only [Option.toList_some]
      rw [z2]
      simp
    | false =>
      have h5 : g d = none := by simpa using h5
      obtain ⟨q', z1, z2⟩ := lcGo_pure enc g ds acc q2 h2 fun e he => h e (List.mem_cons_of_mem _ he)
      refine ⟨q', z1, ?_⟩
      rw [List.map_cons, lcGo, hq, h1, R.of_some, R.bind_ok, h4, R.bind_ok, if_neg (by simp), R.bind_ok]
      rw [List.filterMap_cons, h5]
      simp only [Option.toList_none, List.append_nil]
      exact z2
theorem wiped_len (r : Env) : ∀ is : List Nat, (wipeE r is).length = r.length
  | [] => rfl
  | i :: is => by simp [wipeE, wiped_len r is]
theorem backed_len (o r : Env) : ∀ is : List Nat, (backE o r is).length = r.length
  | [] => rfl
  | i :: is => by simp [backE, backed_len o r is]
theorem wiped_get (r : Env) {k : Nat} : ∀ {is : List Nat}, k ∉ is → (wipeE r is)[k]? = r[k]?
  | [], _ => rfl
  | i :: is, h => by
    simp only [List.mem_cons, not_or] at h
    show ((wipeE r is).set i none)[k]? = _
    rw [List.getElem?_set_ne (Ne.symm h.1), wiped_get r h.2]
theorem backed_get (o r : Env) {k : Nat} : ∀ {is : List Nat}, (backE o r is)[k]? = if k ∈ is ∧ k < r.length then some (o[k]?).join else r[k]?
  | [] => by simp [backE]
  | i :: is => by
    have ih := backed_get o r (k := k) (is := is)
    show ((backE o r is).set i (o[i]?).join)[k]? = _
    by_cases h : k = i
    · subst h
      by_cases hl : k < r.length
      · rw [List.getElem?_set_self (by rw [backed_len]; exact hl), if_pos ⟨List.mem_cons_self .., hl⟩]
      · rw [List.getElem?_eq_none (by rw [List.length_set, backed_len]; omega), if_neg (fun z => hl z.2), List.getElem?_eq_none (by omega)]
    · rw [List.getElem?_set_ne (Ne.symm h), ih]
      simp only [List.mem_cons, h, false_or]
theorem back_wipe {r q : Env} {is : List Nat} (h : wipeE q is = wipeE r is) : backE r q is = r := by
  have hl : q.length = r.length := by
    have := congrArg List.length h
    rw [wiped_len, wiped_len] at this
    exact this
  refine List.ext_getElem? fun k => ?_
  rw [backed_get]
  by_cases hk : k ∈ is
  · by_cases h2 : k < q.length
    · rw [if_pos ⟨hk, h2⟩]
      have h3 : k < r.length := by omega
      rw [List.getElem?_eq_getElem h3]
      rfl
    · rw [if_neg (fun z => h2 z.2), List.getElem?_eq_none (by omega), List.getElem?_eq_none (by omega)]
  · rw [if_neg (fun z => hk z.1), ← wiped_get q hk, h, wiped_get r hk]
theorem ev_lc {α : Type} (enc : α → D) {F : Nat → FnS} {elt : Ex} {tg : Tg} {it : It} {cond : List Ex} {r r1 : Env} {ds : List α} (g : α → Option D) (hi : evIt F it r = .ok (ds.map enc) r1) (hp : plainAll r1 tg.slots = true)
    (h : ∀ d ∈ ds, ∃ q1 q2 q3, bindTg (wipeE r1 tg.slots) tg (enc d) = some q1 ∧ wipeE q2 tg.slots = wipeE r1 tg.slots ∧ wipeE q3 tg.slots = wipeE r1 tg.slots ∧ ∃ c, evc F cond q1 = .ok c q2 ∧ (if c then ∃ y, g d = some y ∧ ev F elt q2 = .ok (.dat y) q3 else g d = none)) :
    ev F (.lc elt tg it cond) r = .ok (.dat (.list (ds.filterMap g))) r1 := by
  obtain ⟨q', z1, z2⟩ := lcGo_pure enc (F := F) (elt := elt) (cond := cond) g ds [] r1 rfl h
  rw [ev, hi, R.bind_ok, if_pos hp]
  rw [z2]
  show (R.ok _ q').bind _ = _
  rw [R.bind_ok, back_wipe z1]
  simp
theorem set_plain {r1 : Env} {i : Nat} {d : D} (hp : isMut r1[i]? = false) : setS (r1.set i none) i (.dat d) = some (r1.set i (some (.dat d))) := by
  unfold setS
  rw [if_neg, List.set_set]
  rw [set_get]
  split
  · simp
  · have : isBor r1[i]? = false := by
      cases q : r1[i]? with
      | none => rfl
      | some s =>
        cases s with
        | none => rfl
        | some s =>
          rw [q] at hp
          cases s <;> first | rfl | cases hp
    rw [this]
    simp
/-- [elt for x in ds] -/
theorem evT_lc {α : Type} (enc : α → D) {F : Nat → FnS} {elt : Ex} {i : Nat} {it : It} {r r1 : Env} {ds : List α} (g : α → D) (hi : evIt F it r = .ok (ds.map enc) r1) (hp : isMut r1[i]? = false)
    (h : ∀ d ∈ ds, ev F elt (r1.set i (some (.dat (enc d)))) = .ok (.dat (g d)) (r1.set i (some (.dat (enc d))))) : ev F (.lc elt (.one i) it []) r = .ok (.dat (.list (ds.map g))) r1 := by
  have e := ev_lc enc (F := F) (elt := elt) (tg := .one i) (cond := []) (fun d => some (g d)) hi (by simp [plainAll, Tg.slots, hp]) fun d hd => ?_
  · rw [e]
    simp
  · refine ⟨r1.set i (some (.dat (enc d))), r1.set i (some (.dat (enc d))), r1.set i (some (.dat (enc d))), set_plain hp, ?_, ?_, true, evc_nil, g d, rfl, h d hd⟩
    · simp [Tg.slots, wipe_one]
    · simp [Tg.slots, wipe_one]
theorem ev_lc1 {F : Nat → FnS} {elt : Ex} {i : Nat} {it : It} {r r1 : Env} {ds : List D} (g : D → D) (hi : evIt F it r = .ok ds r1) (hp : isMut r1[i]? = false)
    (h : ∀ d ∈ ds, ev F elt (r1.set i (some (.dat d))) = .ok (.dat (g d)) (r1.set i (some (.dat d)))) : ev F (.lc elt (.one i) it []) r = .ok (.dat (.list (ds.map g))) r1 :=
  evT_lc id g (by rw [List.map_id]; exact hi) hp h
/-- [elt for x in ds if c] -/
theorem evT_lcc {α : Type} (enc : α → D) {F : Nat → FnS} {elt ce : Ex} {i : Nat} {it : It} {r r1 : Env} {ds : List α} (c : α → Bool) (g : α → D) (hi : evIt F it r = .ok (ds.map enc) r1) (hp : isMut r1[i]? = false)
    (h1 : ∀ d ∈ ds, ev F ce (r1.set i (some (.dat (enc d)))) = .ok (.dat (.bool (c d))) (r1.set i (some (.dat (enc d)))))
    (h : ∀ d ∈ ds, c d = true → ev F elt (r1.set i (some (.dat (enc d)))) = .ok (.dat (g d)) (r1.set i (some (.dat (enc d))))) : ev F (.lc elt (.one i) it [ce]) r = .ok (.dat (.list ((ds.filter c).map g))) r1 := by
  have e := ev_lc enc (F := F) (elt := elt) (tg := .one i) (cond := [ce]) (fun d => if c d then some (g d) else none) hi (by simp [plainAll, Tg.slots, hp]) fun d hd => ?_
  · rw [e]
    congr 3
    clear e hi h1 h
    induction ds with
    | nil => rfl
    | cons d ds ih =>
      rw [List.filterMap_cons, List.filter_cons]
      cases c d <;> simp [ih]
  · refine ⟨r1.set i (some (.dat (enc d))), r1.set i (some (.dat (enc d))), r1.set i (some (.dat (enc d))), set_plain hp, ?_, ?_, c d, ?_, ?_⟩
    · simp [Tg.slots, wipe_one]
    · simp [Tg.slots, wipe_one]
    · rw [evc_one, h1 d hd]
      rfl
    · cases hc : c d with
      | true => exact ⟨g d, by simp, h d hd hc⟩
      | false => simp
end Ap

end
section
/-! Loops of the evaluator: invariants, searches. -/
namespace Ap
open PySem

/-- a slot that holds data or nothing; one that owns a list or nothing -/
def sl : Option D → Option Slot
  | some d => some (.dat d)
  | none => none
def so : Option (List D) → Option Slot
  | some d => some (.own (.lst d))
  | none => none
@[simp] theorem isBor_sl (o : Option D) : isBor (some (sl o)) = false := by cases o <;> rfl
@[simp] theorem isBor_so (o : Option (List D)) : isBor (some (so o)) = false := by cases o <;> rfl
@[simp] theorem isMut_sl (o : Option D) : isMut (some (sl o)) = false := by cases o <;> rfl
@[simp] theorem isMut_dat (d : D) : isMut (some (some (.dat d))) = false := id rfl
@[simp] theorem isMut_none : isMut (some none) = false := id rfl

@[simp] theorem slE_some (d : D) : sl (some d) = some (.dat d) := id rfl
@[simp] theorem slE_none : sl none = none := id rfl
@[simp] theorem soE_some (d : List D) : so (some d) = some (.own (.lst d)) := id rfl
@[simp] theorem soE_none : so none = none := id rfl
theorem sl_some (d : D) : some (Slot.dat d) = sl (some d) := rfl
theorem so_some (d : List D) : some (Slot.own (.lst d)) = so (some d) := rfl
theorem sl_none : (none : Option Slot) = sl none := rfl

theorem forGo_cons (b : D → Env → RS) (d : D) (ds : List D) (r : Env) : forGo b (d :: ds) r = match b d r with
    | .nx r1 => forGo b ds r1
    | .cnt r1 => forGo b ds r1
    | .brk r1 => .nx r1
    | x => x := rfl
theorem run_for_of {F : Nat → FnS} {tg : Tg} {it : It} {b : List Sm} {r r1 : Env} {ds : List D} {x : RS} (hit : evIt F it r = .ok ds r1) (h : forGo (fun d q => (R.of (bindTg q tg d) q).st fun q1 _ => runs F b q1) ds r1 = x) : run F (.forS tg it b) r = x := by
  rw [run_for, hit]
  exact h
/-- a loop that goes to its end -/
theorem for_inv {α S : Type} (enc : α → D) (env : S → Env) (b : D → Env → RS) (I : List α → S → Prop) (l : List α) (s : S) (h0 : I [] s)
    (h : ∀ pre a suf s, pre ++ a :: suf = l → I pre s → ∃ s', (b (enc a) (env s) = .nx (env s') ∨ b (enc a) (env s) = .cnt (env s')) ∧ I (pre ++ [a]) s') : ∃ s', forGo b (l.map enc) (env s) = .nx (env s') ∧ I l s' := by
  have go : ∀ (suf pre : List α) (s : S), pre ++ suf = l → I pre s → ∃ s', forGo b (suf.map enc) (env s) = .nx (env s') ∧ I l s' := by
    intro suf
    induction suf with
    | nil =>
      intro pre s e hi
      rw [List.append_nil] at e
      subst e
      exact ⟨s, rfl, hi⟩
    | cons a suf ih =>
      intro pre s e hi
      obtain ⟨s', h1, h2⟩ := h pre a suf s e hi
      obtain ⟨s'', h3, h4⟩ := ih (pre ++ [a]) s' (by simpa using e) h2
      refine ⟨s'', ?_, h4⟩
      rw [List.map_cons, forGo_cons]
      rcases h1 with h1 | h1 <;> rw [h1] <;> exact h3
  exact go l [] s rfl h0
/-- a search: all must pass p, else false is returned -/
theorem for_all {α S : Type} (enc : α → D) (env : S → Env) (b : D → Env → RS) (p : α → Bool) (v : D) (l : List α) (s : S)
    (h : ∀ pre a suf s, pre ++ a :: suf = l → pre.all p = true → (p a = true → ∃ s', b (enc a) (env s) = .nx (env s') ∨ b (enc a) (env s) = .cnt (env s')) ∧ (p a = false → ∃ s', b (enc a) (env s) = .ret v (env s'))) :
    (l.all p = true → ∃ s', forGo b (l.map enc) (env s) = .nx (env s')) ∧ (l.all p = false → ∃ s', forGo b (l.map enc) (env s) = .ret v (env s')) := by
  have go : ∀ (suf pre : List α) (s : S), pre ++ suf = l → pre.all p = true → (suf.all p = true → ∃ s', forGo b (suf.map enc) (env s) = .nx (env s')) ∧ (suf.all p = false → ∃ s', forGo b (suf.map enc) (env s) = .ret v (env s')) := by
    intro suf
    induction suf with
    | nil => exact fun pre s e hp => ⟨fun _ => ⟨s, rfl⟩, fun z => by cases z⟩
    | cons a suf ih =>
      intro pre s e hp
      obtain ⟨h1, h2⟩ := h pre a suf s e hp
      cases hpa : p a with
      | true =>
        obtain ⟨s', h3⟩ := h1 hpa
        have ih := ih (pre ++ [a]) s' (by simpa using e) (by simp only [List.all_append, hp, Bool.true_and]; simp [hpa])
        have e1 : forGo b ((a :: suf).map enc) (env s) = forGo b (suf.map enc) (env s') := by
          rw [List.map_cons, forGo_cons]
          rcases h3 with h3 | h3 <;> rw [h3]
        rw [e1, List.all_cons, hpa, Bool.true_and]
        exact ih
      | false =>
        obtain ⟨r, h3⟩ := h2 hpa
        rw [List.all_cons, hpa, Bool.false_and]
        refine ⟨fun z => (by cases z), fun _ => ⟨r, ?_⟩⟩
        rw [List.map_cons, forGo_cons, h3]
  exact go l [] s rfl rfl
/-! ### ranges -/
theorem rangeD_eq : ∀ (n : Nat) (lo : Int), rangeD lo n = (List.range n).map fun i : Nat => PyData.int (lo + i)
  | 0, _ => rfl
  | n + 1, lo => by
    rw [rangeD, rangeD_eq n, List.range_succ_eq_map, List.map_cons, List.map_map]
    simp only [Int.natCast_zero, Int.add_zero, List.cons.injEq, true_and]
    refine List.map_congr_left fun a _ => ?_
    simp only [Function.comp, PyData.int.injEq, Int.natCast_succ]
    omega
theorem rng1 {m : Nat} (h : m ≤ 1000000) : rngItems [.int (m : Int)] = some ((List.range m).map fun i : Nat => PyData.int i) := by
  have h1 : inR (m : Int) = true := by
    unfold inR
    simp
    omega
  have h2 : m ≤ lim := Nat.le_trans h (by decide)
  simp only [rngItems, h1, rangeD_eq, Int.toNat_natCast, Int.zero_add, decide_eq_true h2, Bool.and_self, if_true]
theorem rng1' {j : Int} (h0 : 0 ≤ j) (h : j ≤ 1000000) : rngItems [.int j] = some ((List.range j.toNat).map fun i : Nat => PyData.int i) := by
  have := rng1 (m := j.toNat) (by omega)
  rwa [Int.toNat_of_nonneg h0] at this
theorem atI_nat {α : Type} (xs : List α) {i : Int} (h0 : 0 ≤ i) : L2.atI xs i = xs[i.toNat]? := by
  unfold L2.atI L2.ixN
  rw [if_pos h0]
  split
  · rfl
  · rw [List.getElem?_eq_none (by omega)]
    rfl
@[simp] theorem atI_natCast {α : Type} (xs : List α) (i : Nat) : L2.atI xs (i : Int) = xs[i]? := by
  rw [atI_nat xs (by omega), Int.toNat_natCast]
@[simp] theorem atI_zero {α : Type} (xs : List α) : L2.atI xs 0 = xs[0]? := by rw [atI_nat xs (by omega)]; rfl
@[simp] theorem atI_one {α : Type} (xs : List α) : L2.atI xs 1 = xs[1]? := by rw [atI_nat xs (by omega)]; rfl
@[simp] theorem atI_last {α : Type} (xs : List α) : L2.atI xs (-1) = xs[xs.length - 1]? := by
  unfold L2.atI L2.ixN
  rw [if_neg (by omega)]
  cases xs with
  | nil => simp
  | cons a l =>
    rw [if_pos (by simp; omega)]
    show (a :: l)[((-1 : Int) + ((a :: l).length : Nat)).toNat]? = _
    congr 1
    simp
    omega
end Ap

end
section
/-! Router.__init__ -/
namespace Ap
open PySem PySem.Spec PyProof.Rows L2

def iniFn (F : Nat → FnS) (n : Nat) (e1 e3 : Ex) : FnS := fun as => match as with
  | [a, b] => (match ev F e1 (none :: some a :: some b :: List.replicate (n - 3) none) with
    | .exc c _ => .exc c []
    | .ok _ r => (match ev F e3 r with
      | .ok (.dat d) _ => .ret d []
      | _ => .bad)
    | .bad => .bad)
  | _ => .bad
def chkIni (K : Ck) (n : Nat) (sc : Scope) (e1 e3 : Ex) : List Stmt → Bool
  | [.Expr c1 _, .Assign [.Attribute (.Name s1 _) f1 _] (.Name x1 _) _, .Assign [.Attribute (.Name s2 _) f2 _] (.Name x2 _) _, .Assign [.Attribute (.Name s3 _) f3 _] c3 _, .Assign [.Attribute (.Name s4 _) f4 _] (.List [] _) _, .Assign [.Attribute (.Name s5 _) f5 _] (.Constant (.int 0) _ _) _] =>
    notComp c1 && chkE K n sc c1 e1 && decide (f1 = "grid") && slotB K sc 0 s1 && slotB K sc 1 x1 && decide (f2 = "lines") && slotB K sc 0 s2 && slotB K sc 2 x2 && decide (f3 = "routes") && slotB K sc 0 s3 && notComp c3 && chkE K n sc c3 e3 && decide (f4 = "steps") && slotB K sc 0 s4 && decide (f5 = "kept") && slotB K sc 0 s5
  | _ => false
abbrev iF1 (g : V) : List (Str × V) := [("grid", g)]
abbrev iF2 (g l : V) : List (Str × V) := [("grid", g), ("lines", l)]
abbrev iF3 (g l v : V) : List (Str × V) := [("grid", g), ("lines", l), ("routes", v)]
abbrev iF4 (g l v w : V) : List (Str × V) := [("grid", g), ("lines", l), ("routes", v), ("steps", w)]
theorem ini_put1 (g : V) : putF "grid" g [] = iF1 g := rfl
theorem ini_put2 (g l : V) : putF "lines" l (iF1 g) = iF2 g l := by
  have n1 : ¬ (("grid" : Str) = "lines") := by decide +kernel
  simp only [putF, if_neg n1]
theorem ini_put3 (g l v : V) : putF "routes" v (iF2 g l) = iF3 g l v := by
  have n1 : ¬ (("grid" : Str) = "routes") := by decide +kernel
  have n2 : ¬ (("lines" : Str) = "routes") := by decide +kernel
  simp only [putF, if_neg n1, if_neg n2]
theorem ini_put4 (g l v w : V) : putF "steps" w (iF3 g l v) = iF4 g l v w := by
  have n1 : ¬ (("grid" : Str) = "steps") := by decide +kernel
  have n2 : ¬ (("lines" : Str) = "steps") := by decide +kernel
  have n3 : ¬ (("routes" : Str) = "steps") := by decide +kernel
  simp only [putF, if_neg n1, if_neg n2, if_neg n3]
theorem ini_put5 (g l v : V) (b : Addr) (y : V) : putF "kept" y (iF4 g l v (.ref b)) = rtF g l v b y := by
  have n1 : ¬ (("grid" : Str) = "kept") := by decide +kernel
  have n2 : ¬ (("lines" : Str) = "kept") := by decide +kernel
  have n3 : ¬ (("routes" : Str) = "kept") := by decide +kernel
  have n4 : ¬ (("steps" : Str) = "kept") := by decide +kernel
  simp only [putF, if_neg n1, if_neg n2, if_neg n3, if_neg n4]
section
variable {P : Program} {w : World} {K : PySem.W.Frag} {mg : Str → Option Value} {base : Heap} {G : Gx} {F : Nat → FnS} {C : Ck} {k : Nat} {x qual : Str} {params : Arguments} {body : List Stmt} {scope : Scope} {f : Addr} {fd : FuncData} {ps : List Str}
theorem upd_id {H : Hp} {a : Addr} {o : HO} (h : H a = some o) : upd H a o = H := by
  funext b
  unfold upd
  split
  · rename_i z
    rw [z, h]
  · rfl
theorem init_new (M : Mod P w K mg base G F C k) (hrt : RtK K (G.fa 900)) (FD : FunD K x qual params body scope [] [] f fd) (hs : fnScopeB C.N ps scope = true) {n : Nat} {e1 e3 : Ex} (h : chkIni C n scope e1 e3 body = true) (hl : 3 ≤ C.N.length) (hp : ps.length = 3) :
    FnOk P w K mg base (L2N.CX P w) (k + 1) f fd ps (spI G (iniFn F C.N.length e1 e3)) := by
  have S := fnScopeB_ok hs
  refine FD.ok S (fun vs H Q E q => by obtain ⟨_, _, _, _, _, _, _, rfl, _⟩ := q; rw [hp]; rfl) (fun cdv A outer s H vs Q E hr q => ?_)
  obtain ⟨X, hX⟩ : ∃ X, X = cxOf (L2N.CX P w) P w K mg base C.N qual scope f cdv A outer s H E := ⟨_, rfl⟩
  obtain ⟨W, hW⟩ : ∃ W : WX, W = fun cls d _ H => E cls d H := ⟨_, rfl⟩
  have gd : GoodS X C G F scope W := by
    subst hX hW
    exact good_of M S hr
  have g := gd.g
  have snd := sound C G F n
  have hXK : X.K = K := by rw [hX]; rfl
  obtain ⟨a, dx, vg, vl, gd0, ld0, os, rfl, hx, osx, olive, rg, rl, q⟩ := q
  unfold chkIni at h
  split at h
  · rename_i c1 p1 s1 q1 f1 t1 x1 y1 u1 s2 q2 f2 t2 x2 y2 u2 s3 q3 f3 t3 c3 u3 s4 q4 f4 t4 l4 u4 s5 q5 f5 t5 k5 l5 u5
    simp only [Bool.and_eq_true, decide_eq_true_eq] at h
    obtain ⟨⟨⟨⟨⟨⟨⟨⟨⟨⟨⟨⟨⟨⟨⟨a1, a2⟩, rfl⟩, a4⟩, a5⟩, rfl⟩, a7⟩, a8⟩, rfl⟩, a10⟩, a11⟩, a12⟩, rfl⟩, a14⟩, rfl⟩, a16⟩ := h
    have P := pss_cons (ps_expr (pos := p1) (snd.e g a2).1 (sw_comp a1)) (pss_cons (ps_fld (pos := u1) (pos' := t1) (slotB_pe (p := q1) g a4) (slotB_pe (p := y1) g a5) (f := "grid") rfl) (pss_cons (ps_fld (pos := u2) (pos' := t2) (slotB_pe (p := q2) g a7) (slotB_pe (p := y2) g a8) (f := "lines") rfl)
      (pss_cons (ps_fld (pos := u3) (pos' := t3) (slotB_pe (p := q3) g a10) (snd.e g a12).1 (f := "routes") (sw_comp a11)) (pss_cons (ps_fld (pos := u4) (pos' := t4) (slotB_pe (p := q4) g a14) (pe_lst (pos := l4) pa_nil) (f := "steps") rfl) (pss_cons (ps_fld (pos := u5) (pos' := t5) (slotB_pe (p := q5) g a16) (show PE X (.Constant (.int 0) k5 l5) (tC (.int 0)) from pe_int) (f := "kept") rfl) pss_nil)))))
    refine ⟨_, by rw [← hX]; exact P, ?_⟩
    rw [hXK]
    obtain ⟨C0, hC0⟩ : ∃ C0 : Fx, C0 = { G := G, os := os, H0 := H, bs := [], bk := fun _ => .pl } := ⟨_, rfl⟩
    have hG0 : C0.G = G := by rw [hC0]
    have nobs : ∀ p ∈ C0.bs, ∀ b, ¬ Own (C0.bk p.1) C0.H0 p.2 b := fun p hp => by rw [hC0] at hp; cases hp
    have nob2 : ∀ {o : HO} {b : Addr}, ∀ p ∈ (C0.lockO a o).bs, ¬ Own ((C0.lockO a o).bk p.1) (C0.lockO a o).H0 p.2 b := fun p hp => by
      have hp : p ∈ C0.bs := hp
      rw [hC0] at hp
      cases hp
    have sm0 : Same (msk H os) (msk H fun b => os b ∨ b = a) := msk_le fun b z => z.elim id fun z => by rw [z]; exact osx
    obtain ⟨m, hm⟩ : ∃ m, m = C.N.length - 3 := ⟨_, rfl⟩
    have e0 := self_ok (G := G) (H := H) (os := fun b => os b ∨ b = a) (ds := [gd0, ld0]) (xs := [vg, vl]) (v := .ref a) (n := m) (.cons (rg.mono sm0) (.cons (rl.mono sm0) .nil)) (fun b z => z.elim (olive b) fun z => ⟨.ins (G.fa 900) dx [], by rw [z]; exact hx⟩)
    have e0 : EOk (C0.lockO a (.ins (G.fa 900) dx [])) (none :: some (.dat gd0) :: some (.dat ld0) :: List.replicate m none) (some (.ref a) :: some vg :: some vl :: List.replicate m none) H := by
      rw [hC0]
      unfold Fx.lockO
      dsimp only
      rw [upd_id hx]
      exact e0
    have hst : start C.N [.ref a, vg, vl] = some (.ref a) :: some vg :: some vl :: List.replicate m none := by
      rw [hm]
      rfl
    rw [hst]
    have q : (match iniFn F C.N.length e1 e3 [.dat gd0, .dat ld0] with
      | .ret ro _ => ∀ b v3 H', H b = none → (∀ a' o, a' ≠ a → H a' = some o → H' a' = some o) → H' a = some (.ins (G.fa 900) dx (rtF vg vl v3 b (.int 0))) → H' b = some (.lst []) → Rp (msk H' fun a => os a ∨ a = b) ro v3 → Q .non H'
      | .exc c _ => ∀ H', (∀ a' o, a' ≠ a → H a' = some o → H' a' = some o) → E (.ref (G.ca c)) none H'
      | .bad => False) := q
    unfold iniFn at q
    rw [← hm] at q
    dsimp only at q
    have keep : ∀ {o : HO} {r' : Env} {H' : Hp}, EOk (C0.lockO a o) r' (some (.ref a) :: some vg :: some vl :: List.replicate m none) H' → ∀ b u, b ≠ a → H b = some u → H' b = some u := fun {o r' H'} e b u hb hu =>
      e.base b u (by show (upd C0.H0 a o) b = some u; rw [upd_ne hb, hC0]; exact hu) nob2
    have atx : ∀ {o : HO} {r' : Env} {H' : Hp}, EOk (C0.lockO a o) r' (some (.ref a) :: some vg :: some vl :: List.replicate m none) H' → H' a = some o := fun {o r' H'} e =>
      e.base a o (by show (upd C0.H0 a o) a = some o; exact upd_same) nob2
    refine ⟨C0.lockO a (.ins (G.fa 900) dx []), hG0, _, e0, ?_⟩
    cases h1 : ev F e1 (none :: some (.dat gd0) :: some (.dat ld0) :: List.replicate m none) with
    | bad => rw [h1] at q; exact q.elim
    | exc c r1 =>
      rw [h1] at q
      subst hW
      intro H' e'
      have hca : (C0.lockO a (.ins (G.fa 900) dx [])).ca c = G.ca c := by show C0.G.ca c = _; rw [hG0]
      rw [hca]
      exact q H' (keep e')
    | ok v1 r1 =>
      rw [h1] at q
      dsimp only at q
      intro y H1 e1' g1 ok1
      refine ⟨vg, rfl, .ref a, rfl, a, _, dx, [], rfl, atx e1', hrt.cls, hrt.grid, by simp, ?_⟩
      refine ⟨vl, rfl, .ref a, rfl, a, _, dx, _, rfl, upd_same, hrt.cls, hrt.lines, by simp [putF], ?_⟩
      rw [upd_upd, ini_put1, ini_put2]
      obtain ⟨e2, g2⟩ := e1'.relock (y := .ins (G.fa 900) dx (iF2 vg vl)) (fun p hp => nobs p hp a)
      refine ⟨C0.lockO a (.ins (G.fa 900) dx (iF2 vg vl)), hG0, _, e2, ?_⟩
      cases h3 : ev F e3 r1 with
      | bad => rw [h3] at q; exact q.elim
      | exc c r2 => rw [h3] at q; exact q.elim
      | ok v3 r2 =>
        rw [h3] at q
        cases v3 with
        | dat ro =>
          intro v3 H4 e4 g4 ok4
          have ok4 : Rp (fz (C0.lockO a (.ins (G.fa 900) dx (iF2 vg vl))) r2 (some (.ref a) :: some vg :: some vl :: List.replicate m none) H4) ro v3 := ok4
          refine ⟨.ref a, rfl, a, _, dx, _, rfl, atx e4, hrt.cls, hrt.routes, by simp, ?_⟩
          rw [ini_put3]
          refine ⟨by simp, fun b hb => ?_⟩
          have hba : b ≠ a := fun z => by rw [z, upd_same] at hb; cases hb
          have hb4 : H4 b = none := by rw [upd_ne hba] at hb; exact hb
          refine ⟨.ref a, rfl, a, _, dx, _, rfl, by rw [upd_ne hba.symm]; exact upd_same, hrt.cls, hrt.steps, by simp, ?_⟩
          rw [ini_put4]
          refine ⟨.ref a, rfl, a, _, dx, _, rfl, upd_same, hrt.cls, hrt.kept, by simp, ?_⟩
          rw [ini_put5, upd_upd]
          refine q b v3 _ ?_ (fun c u hc hu => ?_) upd_same (by rw [upd_ne hba]; exact upd_same) (ok4.mono fun c o z => ?_)
          · cases hH : H b with
            | none => rfl
            | some u => rw [keep e4 b u hba hH] at hb4; cases hb4
          · rw [upd_ne hc]
            have hcb : c ≠ b := fun z => by
              rw [z] at hu
              rw [keep e4 b u hba hu] at hb4
              cases hb4
            rw [upd_ne hcb, upd_ne hc]
            exact keep e4 c u hc hu
          · obtain ⟨z1, z2⟩ := msk_some.mp z
            have hca : c ≠ a := fun w => z1 (.inl (.inr w))
            have hcb : c ≠ b := fun w => by rw [w, hb4] at z2; cases z2
            refine msk_some.mpr ⟨fun w => ?_, by rw [upd_ne hca, upd_ne hcb, upd_ne hca]; exact z2⟩
            rcases w with w | w
            · exact z1 (.inl (.inl (by rw [hC0]; exact w)))
            · exact hcb w
        | own _ => exact q.elim
        | fn _ => exact q.elim
        | scr _ => exact q.elim
  · cases h
end
end Ap

end
section
/-! The methods of the class of routers; defs that use routers. -/
namespace Ap
open PySem PySem.Spec PyProof.Rows L2

/-- the facts of the class -/
def rtFacts (ms : List Str) : List He.Fa := [.cls "Router", .noat "Router" "grid", .noat "Router" "lines", .noat "Router" "routes", .noat "Router" "steps", .noat "Router" "kept"] ++ ms.map (.meth "Router")
def DRow.ckR (L : Lex) (r : DRow) (wh : Bool) (ms : List (Nat × Str)) (ini : Bool) : Ck := ⟨r.N, r.fns, L.cls, L.gi, L.gs, wh, [], false, true, ms, ini, false⟩
def DRow.okR (L : Lex) (st : Stmt) (r : DRow) (wh : Bool) (ms : List (Nat × Str)) (ini : Bool) : Bool := fnScopeB r.N (r.N.take r.m) (defScope st) && chkSs (r.ckR L wh ms ini) 200 (defScope st) (defBody st) r.b && decide (r.m ≤ r.N.length)
section
variable {P : Program} {w : World} {K : PySem.W.Frag} {mg : Str → Option Value} {base h : Heap} {L : Lex} {rows : List DRow} {body : List Stmt}
theorem HdOk.rfact (Y : HdOk K h mg L rows body) {f : He.Fa} (hf : f ∈ L.rfa) : f.ok K = true := Y.fact (List.mem_append_right _ (List.mem_append_right _ (List.mem_append_right _ (List.mem_append_right _ (List.mem_append_right _ (List.mem_append_right _ (List.mem_append_right _ hf)))))))
theorem HdOk.mcl (Y : HdOk K h mg L rows body) {x : Str} (hx : x ∈ L.mcl) : mg x = some (.ref (He.ga K x)) ∧ Mk K (He.ga K x) (He.ma K (He.ga K x) "__init__") := by
  have hf : ∀ (f : He.Fa), f ∈ L.mcl.map He.Fa.glo ++ L.mcl.map He.Fa.mkr → f ∈ L.facts := fun f hf => List.mem_append_right _ (List.mem_append_right _ (List.mem_append_right _ (List.mem_append_right _ (List.mem_append_right _ (List.mem_append_right _ (List.mem_append_left _ hf))))))
  exact ⟨He.glo_ok Y.kin Y.ns (Y.fact (hf _ (List.mem_append_left _ (List.mem_map_of_mem hx)))), He.mkr_ok (Y.fact (hf _ (List.mem_append_right _ (List.mem_map_of_mem hx))))⟩
theorem rt_ok (Y : HdOk K h mg L rows body) (wb : routB K = true) {ms : List Str} (hr : L.rfa = rtFacts ms) : RtK K (He.ga K "Router") := by
  have hf : ∀ f ∈ rtFacts ms, f.ok K = true := fun f hf => Y.rfact (by rw [hr]; exact hf)
  unfold routB at wb
  simp only [Bool.and_eq_true, decide_eq_true_eq] at wb
  obtain ⟨w1, w2, w3, w4, w5, w6, w7, w8⟩ := wb
  have c := He.cls_ok (x := "Router") (hf _ (by simp [rtFacts]))
  refine ⟨c, He.eqO_ok w1, He.eqO_ok w2, w3, w4, He.eqO_ok w5, w6, w7, fun t ht => ?_, ?_, ?_, ?_, ?_, ?_⟩
  · have := List.all_eq_true.mp w8 t ht
    simp only [Bool.and_eq_true, decide_eq_true_eq] at this
    exact this
  · exact He.noat_ok (hf (.noat "Router" "grid") (by simp [rtFacts]))
  · exact He.noat_ok (hf (.noat "Router" "lines") (by simp [rtFacts]))
  · exact He.noat_ok (hf (.noat "Router" "routes") (by simp [rtFacts]))
  · exact He.noat_ok (hf (.noat "Router" "steps") (by simp [rtFacts]))
  · exact He.noat_ok (hf (.noat "Router" "kept") (by simp [rtFacts]))
/-- what is known of the class in a law -/
structure RtY (K : PySem.W.Frag) (mg : Str → Option Value) (L : Lex) : Prop where
  k : RtK K ((L.gx K).fa 900)
  mg : mg "Router" = some (.ref ((L.gx K).fa 900))
  made : Mk K ((L.gx K).fa 900) (He.ma K (He.ga K "Router") "__init__")
  e : (L.gx K).fa 900 = He.ga K "Router"
theorem rty_ok (Y : HdOk K h mg L rows body) (wb : routB K = true) {ms : List Str} (hr : L.rfa = rtFacts ms) (hm : ("Router" : Str) ∈ L.mcl) (hn : L.fn[900]? = some ("Router" : Str)) : RtY K mg L := by
  have e : (L.gx K).fa 900 = He.ga K "Router" := by
    show He.ga K (L.fn.getD 900 "") = _
    rw [List.getD_eq_getElem?_getD, hn]
    rfl
  obtain ⟨z1, z2⟩ := Y.mcl hm
  exact ⟨by rw [e]; exact rt_ok Y wb hr, by rw [e]; exact z1, by rw [e]; exact z2, e⟩
/-- method m, number k, at level j -/
def OkT (P : Program) (w : World) (K : PySem.W.Frag) (mg : Str → Option Value) (base : Heap) (L : Lex) (j : Nat) (m : Str) (f : FnS) : Prop :=
  ∃ (f' : Addr) (fd : FuncData) (ps : List Str), Meth K ((L.gx K).fa 900) m f' ∧ Binds K fd ps [] ∧ FnOk P w K mg base (L2N.CX P w) j f' fd ps (spOf K (L.gx K).fa (L.gx K).ca f)
theorem OkT.mono {j j' : Nat} {m : Str} {f : FnS} (h : OkT P w K mg base L j m f) (hj : j ≤ j') : OkT P w K mg base L j' m f := by
  obtain ⟨f', fd, ps, h1, h2, h3⟩ := h
  exact ⟨f', fd, ps, h1, h2, h3.mono hj⟩
/-- __init__, at level j -/
def OkI (P : Program) (w : World) (K : PySem.W.Frag) (mg : Str → Option Value) (base : Heap) (L : Lex) (j : Nat) (f : FnS) : Prop :=
  ∃ (f' : Addr) (fd : FuncData) (ps : List Str), Mk K ((L.gx K).fa 900) f' ∧ Binds K fd ps [] ∧ FnOk P w K mg base (L2N.CX P w) j f' fd ps (spI (L.gx K) f)
theorem OkI.mono {j j' : Nat} {f : FnS} (h : OkI P w K mg base L j f) (hj : j ≤ j') : OkI P w K mg base L j' f := by
  obtain ⟨f', fd, ps, h1, h2, h3⟩ := h
  exact ⟨f', fd, ps, h1, h2, h3.mono hj⟩
theorem okT_nil {j : Nat} {F : Nat → FnS} : ∀ p ∈ ([] : List (Nat × Str)), OkT P w K mg base L j p.2 (F p.1) := fun p hp => by cases hp
theorem okT_cons {j k : Nat} {m : Str} {l : List (Nat × Str)} {F : Nat → FnS} (h : OkT P w K mg base L j m (F k)) (t : ∀ p ∈ l, OkT P w K mg base L j p.2 (F p.1)) : ∀ p ∈ (k, m) :: l, OkT P w K mg base L j p.2 (F p.1) := fun p hp => by
  rcases List.mem_cons.mp hp with rfl | hp
  · exact h
  · exact t p hp
/-- what a def that uses routers stands on: calls at level j, methods at level t, __init__ at level i -/
theorem mod_R (Y : HdOk K h mg L rows body) (Z : RtY K mg L) (hcl : ∀ p ∈ L.cls, L.cn[p.1]? = some p.2) {r : DRow} {wh : Bool} {ms : List (Nat × Str)} {ini : Bool} {F : Nat → FnS} {j t i : Nat} (ht : t + 3 ≤ j) (hi : i + 1 ≤ j)
    (ha : wh = true → ∀ X : Cx, X.prog = P → X.w = w → X.K = K → X.mg = mg → X.base = base → Room j X.A → AskX X (L.gx K).ca) (hc : ∀ p ∈ r.fns, Ok P w K mg base L j p.1 p.2 (F p.1)) (hms : ∀ p ∈ ms, OkT P w K mg base L t p.2 (F p.1)) (hini : ini = true → OkI P w K mg base L i (F 900)) :
    Mod P w K mg base (L.gx K) F (r.ckR L wh ms ini) j :=
  ⟨rfl, Y.blt, Y.gi, Y.gs, Y.cls hcl, ha, (fun z => Bool.noConfusion (show false = true from z)), (fun p hp => nomatch (show p ∈ [] from hp)), fun _ => ⟨Z.k, Z.mg⟩, fun p hp => (let ⟨f', fd, ps, h1, h2, h3⟩ := hms p hp; ⟨f', fd, ps, t, h1, h2, h3, ht⟩), fun z => (let ⟨f', fd, ps, h1, h2, h3⟩ := hini z; ⟨f', fd, ps, i, h1, h2, h3, hi⟩), fun p hp => hc p hp⟩
theorem meth_step (Y : HdOk K h mg L rows body) (Z : RtY K mg L) {m qual : Str} {st : Stmt} {n : Nat} {r : DRow} {d : He.DefD} (hd : d = ⟨("Router", some m), m, qual, defArgs st, defBody st, defScope st, [], []⟩) (hn : L.ms[n]? = some d) {msn : List Str} (hr : L.rfa = rtFacts msn) (hm : m ∈ msn) (hcl : ∀ p ∈ L.cls, L.cn[p.1]? = some p.2)
    {wh : Bool} {ms : List (Nat × Str)} {ini : Bool} (hok : r.okR L st wh ms ini = true) (hb : ∀ {fd : FuncData} {f : Addr}, FunD K m qual (defArgs st) (defBody st) (defScope st) [] [] f fd → Binds K fd (r.N.take r.m) [])
    {F : Nat → FnS} {j t i : Nat} (ht : t + 3 ≤ j) (hi : i + 1 ≤ j) (ha : wh = true → ∀ X : Cx, X.prog = P → X.w = w → X.K = K → X.mg = mg → X.base = base → Room j X.A → AskX X (L.gx K).ca) (hms : ∀ p ∈ ms, OkT P w K mg base L t p.2 (F p.1)) (hini : ini = true → OkI P w K mg base L i (F 900)) (hc : ∀ p ∈ r.fns, Ok P w K mg base L j p.1 p.2 (F p.1)) : OkT P w K mg base L (j + 1) m (r.fn F) := by
  unfold DRow.okR at hok
  simp only [Bool.and_eq_true, decide_eq_true_eq] at hok
  obtain ⟨⟨h1, h2⟩, h3⟩ := hok
  obtain ⟨fd, FD⟩ := Y.says.def_ (rows.length + n) (d := d) (by rw [List.getElem?_append_right (by rw [List.length_map]; omega), List.length_map, Nat.add_sub_cancel_left]; exact hn)
  subst hd
  have FD : FunD K m qual (defArgs st) (defBody st) (defScope st) [] [] (He.ma K (He.ga K "Router") m) fd := FD
  have M := mod_R (P := P) (w := w) (base := base) Y Z hcl ht hi ha hc hms hini
  have z := def_ok (ps := r.N.take r.m) M FD h1 h2
  rw [List.length_take, Nat.min_eq_left h3] at z
  refine ⟨_, fd, r.N.take r.m, ?_, hb FD, z⟩
  rw [Z.e]
  exact He.meth_ok (Y.rfact (by rw [hr]; unfold rtFacts; exact List.mem_append_right _ (List.mem_map_of_mem hm)))
theorem ini_step (Y : HdOk K h mg L rows body) (Z : RtY K mg L) {qual : Str} {st : Stmt} {n : Nat} {r : DRow} {d : He.DefD} (hd : d = ⟨("Router", some "__init__"), "__init__", qual, defArgs st, defBody st, defScope st, [], []⟩) (hn : L.ms[n]? = some d) (hcl : ∀ p ∈ L.cls, L.cn[p.1]? = some p.2)
    {e1 e3 : Ex} (hok : (fnScopeB r.N (r.N.take r.m) (defScope st) && chkIni (r.ckR L false [] false) 200 (defScope st) e1 e3 (defBody st) && decide (r.m = 3 ∧ 3 ≤ r.N.length)) = true) (hb : ∀ {fd : FuncData} {f : Addr}, FunD K "__init__" qual (defArgs st) (defBody st) (defScope st) [] [] f fd → Binds K fd (r.N.take r.m) [])
    {F : Nat → FnS} {j : Nat} (hj : 3 ≤ j) (hc : ∀ p ∈ r.fns, Ok P w K mg base L j p.1 p.2 (F p.1)) : OkI P w K mg base L (j + 1) (iniFn F r.N.length e1 e3) := by
  simp only [Bool.and_eq_true, decide_eq_true_eq] at hok
  obtain ⟨⟨h1, h2⟩, h3, h4⟩ := hok
  obtain ⟨fd, FD⟩ := Y.says.def_ (rows.length + n) (d := d) (by rw [List.getElem?_append_right (by rw [List.length_map]; omega), List.length_map, Nat.add_sub_cancel_left]; exact hn)
  subst hd
  have FD : FunD K "__init__" qual (defArgs st) (defBody st) (defScope st) [] [] (He.ma K (He.ga K "Router") "__init__") fd := FD
  have M := mod_R (P := P) (w := w) (base := base) (t := 0) (i := 0) (ms := []) (ini := false) (wh := false) Y Z hcl (by omega) (by omega) (fun z => nomatch z) hc okT_nil (fun z => nomatch z)
  have z := init_new (ps := r.N.take r.m) M Z.k FD h1 h2 h4 (by rw [List.length_take, h3]; omega)
  exact ⟨_, fd, r.N.take r.m, Z.made, hb FD, z⟩
theorem DRow.stepR (Y : HdOk K h mg L rows body) (Z : RtY K mg L) {k n : Nat} {r : DRow} (hr : rows[n]? = some r) (hk : L.fn[k]? = some r.x) (hm : r.x ∈ L.fs) (hcl : ∀ p ∈ L.cls, L.cn[p.1]? = some p.2) {wh : Bool} {ms : List (Nat × Str)} {ini : Bool} (hok : r.okR L (atS body r.i) wh ms ini = true)
    (hb : ∀ {fd : FuncData} {f : Addr}, FunD K r.x r.x (defArgs (atS body r.i)) (defBody (atS body r.i)) (defScope (atS body r.i)) [] [] f fd → Binds K fd (r.N.take r.m) [])
    {F : Nat → FnS} {j t i : Nat} (ht : t + 3 ≤ j) (hi : i + 1 ≤ j) (ha : wh = true → ∀ X : Cx, X.prog = P → X.w = w → X.K = K → X.mg = mg → X.base = base → Room j X.A → AskX X (L.gx K).ca) (hms : ∀ p ∈ ms, OkT P w K mg base L t p.2 (F p.1)) (hini : ini = true → OkI P w K mg base L i (F 900)) (hc : ∀ p ∈ r.fns, Ok P w K mg base L j p.1 p.2 (F p.1)) : Ok P w K mg base L (j + 1) k r.x (r.fn F) := by
  unfold DRow.okR at hok
  simp only [Bool.and_eq_true, decide_eq_true_eq] at hok
  obtain ⟨⟨h1, h2⟩, h3⟩ := hok
  obtain ⟨fd, FD⟩ := Y.says.def_ n (d := r.d body) (row_at hr)
  have FD : FunD K r.x r.x (defArgs (atS body r.i)) (defBody (atS body r.i)) (defScope (atS body r.i)) [] [] (He.ga K r.x) fd := FD
  have e : (L.gx K).fa k = He.ga K r.x := by
    show He.ga K (L.fn.getD k "") = _
    rw [List.getD_eq_getElem?_getD, hk]
    rfl
  have M := mod_R (P := P) (w := w) (base := base) Y Z hcl ht hi ha hc hms hini
  have z := def_ok (ps := r.N.take r.m) M FD h1 h2
  rw [List.length_take, Nat.min_eq_left h3] at z
  refine ⟨fd, r.N.take r.m, ?_, ?_, hb FD, ?_⟩
  · rw [e]
    exact Y.glo hm
  · rw [e]
    exact FD.kp
  · rw [e]
    exact z
/-- the law's own def, with routers -/
theorem DRow.lastR (Y : HdOk K h mg L rows body) (Z : RtY K mg L) {k n : Nat} {r : DRow} {x : Str} (hr : rows[n]? = some r) (hx : r.N.take r.m = [x]) (hcl : ∀ p ∈ L.cls, L.cn[p.1]? = some p.2) {ms : List (Nat × Str)} {ini : Bool} (hok : r.okR L (atS body r.i) false ms ini = true)
    (hb : ∀ {fd : FuncData} {f : Addr}, FunD K r.x r.x (defArgs (atS body r.i)) (defBody (atS body r.i)) (defScope (atS body r.i)) [] [] f fd → ∀ (s : Shared) (us : List Value), us.length = [x].length → BindsTo s fd ⟨us, []⟩ ([x].zip us))
    {F : Nat → FnS} {j t i : Nat} (ht : t + 3 ≤ j) (hi : i + 1 ≤ j) : ∃ fd, (∀ (s : Shared) (u : Value), BindsTo s fd ⟨[u], []⟩ [(x, u)]) ∧ ∀ base : Heap, (∀ p ∈ ms, OkT P w K mg base L t p.2 (F p.1)) → (ini = true → OkI P w K mg base L i (F 900)) → (∀ p ∈ r.fns, Ok P w K mg base L j p.1 p.2 (F p.1)) → FnOk P w K mg base (L2N.CX P w) (j + 1) (He.ga K r.x) fd [x] (spOf K (L.gx K).fa (L.gx K).ca (r.fn F)) := by
  unfold DRow.okR at hok
  simp only [Bool.and_eq_true, decide_eq_true_eq] at hok
  obtain ⟨⟨h1, h2⟩, h3⟩ := hok
  obtain ⟨fd, FD⟩ := Y.says.def_ n (d := r.d body) (row_at hr)
  have FD : FunD K r.x r.x (defArgs (atS body r.i)) (defBody (atS body r.i)) (defScope (atS body r.i)) [] [] (He.ga K r.x) fd := FD
  refine ⟨fd, fun s u => hb FD s [u] rfl, fun base hms hini hc => ?_⟩
  have M := mod_R (P := P) (w := w) (base := base) (wh := false) Y Z hcl ht hi (fun z => nomatch z) hc hms hini
  have z := def_ok (ps := r.N.take r.m) M FD h1 h2
  rw [List.length_take, Nat.min_eq_left h3, hx] at z
  exact z
end
end Ap

end
section
/-! the defs of the program and of the laws: core terms, and what they do (printed by gen.py) -/
namespace Ap
open PySem
def fnNames : List Str := ([("is_integer" : Str), ("is_grid" : Str), ("check_grid" : Str), ("open_list" : Str), ("open_points" : Str), ("_law_cell_at" : Str), ("_law_mixed" : Str), ("_law_draw" : Str), ("_law_pick" : Str), ("_law_field" : Str), ("_law_spots" : Str), ("law" : Str), ("weight_at" : Str), ("is_open" : Str), ("after" : Str), ("valid_path" : Str), ("is_path" : Str), ("path_list" : Str), ("check_points" : Str), ("paths" : Str), ("weight_of" : Str), ("weight" : Str), ("sum_between" : Str), ("total" : Str), ("_law_same_number" : Str), ("_law_opened" : Str), ("_law_ways_between" : Str), ("_law_heft" : Str), ("law" : Str), ("are_points" : Str), ("are_lines" : Str), ("check_lines" : Str), ("rows_of" : Str), ("matrix" : Str), ("value_of" : Str), ("determinant" : Str), ("_law_some_lines" : Str), ("_law_together" : Str), ("_law_turns" : Str), ("law" : Str), ("valid_system" : Str), ("is_system" : Str), ("check_system" : Str), ("points_of" : Str), ("keeps_apart" : Str), ("is_apart" : Str), ("order_of" : Str), ("permutation" : Str), ("straight_systems" : Str), ("apart_systems" : Str), ("_law_same_truth" : Str), ("_law_straight_apart" : Str), ("_law_which" : Str), ("_law_roads_of" : Str), ("_law_ask" : Str), ("law" : Str), ("exchanged" : Str), ("exchange" : Str), ("_law_ask" : Str), ("_law_swapped" : Str), ("law" : Str), ("in_line" : Str), ("aligned" : Str), ("are_aligned" : Str), ("_law_is_lined_up" : Str), ("_law_picked" : Str), ("law" : Str), ("is_straight" : Str), ("upper_path" : Str), ("lower_path" : Str), ("check_straight" : Str), ("upper_and_lower" : Str), ("law" : Str), ("check_aligned" : Str), ("farthest" : Str), ("topmost" : Str), ("bottommost" : Str), ("_law_ask" : Str), ("law" : Str), ("links_of" : Str), ("reached" : Str), ("flow_of" : Str), ("most_paths" : Str), ("barrier" : Str), ("is_barrier" : Str), ("_law_blocks" : Str), ("law" : Str), ("check_numbers" : Str), ("count_piles" : Str), ("valid_pile" : Str), ("is_pile" : Str), ("grid_for" : Str), ("lines_for" : Str), ("path_for" : Str), ("system_of" : Str), ("row_for" : Str), ("pile_of" : Str), ("_law_rows" : Str), ("_law_number" : Str), ("law" : Str), ("format_grid" : Str), ("parse_grid" : Str), ("_law_read" : Str), ("law" : Str), ("_wall" : Str), ("_law_routed" : Str), ("law" : Str), ("_law_ask" : Str), ("law" : Str), ("_law_back" : Str), ("law" : Str), ("_law_choose" : Str), ("_law_small_ones" : Str), ("law" : Str), ("_law_flip" : Str), ("law" : Str), ("law" : Str), ("_law_told" : Str), ("law" : Str), ("_law_two" : Str), ("_law_three" : Str), ("_law_plain" : Str), ("law" : Str), ("_law_two" : Str), ("_law_three" : Str), ("_law_four" : Str), ("law" : Str), ("_law_pile" : Str), ("_law_step" : Str), ("_law_steps_refused" : Str), ("law" : Str), ("check_apart" : Str), ("flip_list" : Str), ("flips" : Str), ("area_between" : Str), ("area" : Str), ("flip_road" : Str), ("_law_ask" : Str), ("_law_flips" : Str), ("_law_area" : Str), ("_law_differ" : Str), ("_law_setting" : Str), ("law" : Str), ("closed_at" : Str), ("parts" : Str), ("_law_ask" : Str), ("_law_weighed" : Str), ("law" : Str), ("open_points" : Str), ("check_points" : Str), ("paths" : Str), ("weight" : Str), ("total" : Str), ("permutation" : Str), ("apart_systems" : Str), ("most_paths" : Str), ("barrier" : Str), ("is_barrier" : Str), ("matrix" : Str), ("determinant" : Str), ("exchange" : Str), ("format_grid" : Str), ("are_aligned" : Str), ("check_straight" : Str), ("upper_and_lower" : Str), ("check_aligned" : Str), ("topmost" : Str), ("bottommost" : Str)] : List Str) ++ (List.replicate 732 ("" : Str) ++ [("Router" : Str)])
def clNames : List Str := ["PathError", "InvalidGrid", "InvalidPoint", "InvalidPath", "InvalidLines", "InvalidSystem", "InvalidNumber", "InvalidPile", "InvalidStep", "NotAligned", "IsApart", "NoSystem", "TooMany", "Stuck", "NothingToUndo", "ParseError", "NotOpen"]
def b_is_integer : List Sm :=
  [.ret (.andE (.prim (.isi .int) [.var 0]) (.andE (.notE (.prim (.isi .bool) [.var 0])) (.chain .le .le (.var 1) (.var 0) (.var 2))))]
def row_is_integer (i : Nat) : DRow := ⟨i, "is_integer", 3, ["value", "low", "high"], [], b_is_integer⟩
def f_is_integer : FnS := defR (lk []) 3 3 b_is_integer
def b_is_grid : List Sm :=
  [.ite (.orE (.notE (.prim (.isi .tuple) [.var 0])) (.notE (.chain .le .le (.lit (.int 1)) (.prim .len [.var 0]) (.glb "SIDE" (.int 6))))) [.ret (.lit (.bool false))] [],
  .forS (.one 1) (.seq (.var 0)) [.ite (.orE (.notE (.prim (.isi .tuple) [.var 1])) (.orE (.notE (.chain .le .le (.lit (.int 1)) (.prim .len [.var 1]) (.glb "SIDE" (.int 6)))) (.prim .ne [.prim .len [.var 1], .prim .len [.prim .idx [.var 0, .lit (.int 0)]]]))) [.ret (.lit (.bool false))] [],
    .ite (.notE (.prim .all [.lc (.call 0 [.var 2, .lit (.int 0), .lit (.int 9)]) (.one 2) (.seq (.var 1)) []])) [.ret (.lit (.bool false))] []],
  .ret (.lit (.bool true))]
def row_is_grid (i : Nat) : DRow := ⟨i, "is_grid", 1, ["value", "row", "one"], [(0, "is_integer")], b_is_grid⟩
def f_is_grid : FnS := defR (lk [(0, f_is_integer)]) 1 3 b_is_grid
def b_check_grid : List Sm :=
  [.ite (.notE (.call 1 [.var 0])) [.raise 1] []]
def row_check_grid (i : Nat) : DRow := ⟨i, "check_grid", 1, ["grid"], [(1, "is_grid")], b_check_grid⟩
def f_check_grid : FnS := defR (lk [(1, f_is_grid)]) 1 1 b_check_grid
def b_open_list : List Sm :=
  [.new 1 (.lst []),
  .forS (.one 2) (.rng [.prim .len [.prim .idx [.var 0, .lit (.int 0)]]]) [.ext 1 (.lc (.tup [.var 2, .var 3]) (.one 3) (.rng [.prim .len [.var 0]]) [.prim .gt [.prim .idx [.prim .idx [.var 0, .var 3], .var 2], .lit (.int 0)]])],
  .ret (.var 1)]
def row_open_list (i : Nat) : DRow := ⟨i, "open_list", 1, ["grid", "result", "x", "y"], [], b_open_list⟩
def f_open_list : FnS := defR (lk []) 1 4 b_open_list
def b_open_points : List Sm :=
  [.exp (.call 2 [.var 0]),
  .ret (.call 3 [.var 0])]
def row_open_points (i : Nat) : DRow := ⟨i, "open_points", 1, ["grid"], [(2, "check_grid"), (3, "open_list")], b_open_points⟩
def f_open_points : FnS := defR (lk [(2, f_check_grid), (3, f_open_list)]) 1 1 b_open_points
def b__law_cell_at : List Sm :=
  [.ite (.prim .lt [.var 1, .slen 0]) [.ret (.sidx 0 (.var 1))] [],
  .ite (.snil 0) [.ret (.lit (.int 0))] [],
  .asg (.one 2) (.sidx 0 (.prim .mod [.var 1, .slen 0])),
  .forS (.one 3) (.rng [.prim .min2 [.prim .fdiv [.var 1, .slen 0], .lit (.int 60)]]) [.asg (.one 2) (.prim .fdiv [.var 2, .lit (.int 1000003)])],
  .ret (.prim .add [.prim .add [.prim .mul [.sidx 0 (.prim .mod [.var 1, .slen 0]), .lit (.int 31)], .var 1], .prim .mul [.var 2, .lit (.int 101)]])]
def row__law_cell_at (i : Nat) : DRow := ⟨i, "_law_cell_at", 2, ["script", "k", "spare", "again"], [], b__law_cell_at⟩
def f__law_cell_at : FnS := defR (lk []) 2 4 b__law_cell_at
def b__law_mixed : List Sm :=
  [.asg (.one 3) (.prim .mod [.prim .add [.prim .add [.prim .mul [.call 5 [.var 0, .var 1], .lit (.int 1103515245)], .prim .mul [.lit (.int 7919), .var 1]], .lit (.int 12345)], .lit (.int 2147483647)]),
  .ret (.prim .mod [.prim .mod [.prim .mod [.prim .pow [.var 3, .lit (.int 5)], .lit (.int 2147483647)], .lit (.int 999983)], .var 2])]
def row__law_mixed (i : Nat) : DRow := ⟨i, "_law_mixed", 3, ["script", "k", "many", "spun"], [(5, "_law_cell_at")], b__law_mixed⟩
def f__law_mixed : FnS := defR (lk [(5, f__law_cell_at)]) 3 4 b__law_mixed
def b__law_draw : List Sm :=
  [.app 1 (.lit (.int 0)),
  .ret (.call 6 [.var 0, .prim .len [.var 1], .var 2])]
def row__law_draw (i : Nat) : DRow := ⟨i, "_law_draw", 3, ["script", "town", "many"], [(6, "_law_mixed")], b__law_draw⟩
def f__law_draw : FnS := defR (lk [(6, f__law_mixed)]) 3 3 b__law_draw
def b__law_pick : List Sm :=
  [.ret (.prim .idx [.var 2, .call 7 [.var 0, .var 1, .prim .len [.var 2]]])]
def row__law_pick (i : Nat) : DRow := ⟨i, "_law_pick", 3, ["script", "town", "some"], [(7, "_law_draw")], b__law_pick⟩
def f__law_pick : FnS := defR (lk [(7, f__law_draw)]) 3 3 b__law_pick
def b__law_field : List Sm :=
  [.par 7 8 false false (.prim .add [.lit (.int 1), .call 7 [.var 0, .var 1, .var 2]]) (.prim .add [.lit (.int 1), .call 7 [.var 0, .var 1, .var 2]]),
  .asg (.one 3) (.call 8 [.var 0, .var 1, .lst [.lit (.int 1), .lit (.int 1), .lit (.int 2), .lit (.int 9)]]),
  .asg (.one 4) (.call 7 [.var 0, .var 1, .lit (.int 3)]),
  .new 5 (.lst []),
  .forS (.one 6) (.rng [.var 8]) [.new 9 (.lst []),
    .forS (.one 10) (.rng [.var 7]) [.app 9 (.ite (.prim .lt [.call 7 [.var 0, .var 1, .lit (.int 6)], .var 4]) (.lit (.int 0)) (.prim .add [.lit (.int 1), .call 7 [.var 0, .var 1, .var 3]]))],
    .app 5 (.prim .tupOf [.var 9])],
  .ret (.prim .tupOf [.var 5])]
def row__law_field (i : Nat) : DRow := ⟨i, "_law_field", 3, ["script", "town", "most", "top", "shut", "rows", "y", "wide", "high", "row", "x"], [(7, "_law_draw"), (8, "_law_pick")], b__law_field⟩
def f__law_field : FnS := defR (lk [(7, f__law_draw), (8, f__law_pick)]) 3 11 b__law_field
def b__law_spots : List Sm :=
  [.new 1 (.lst []),
  .forS (.one 2) (.rng [.prim .len [.prim .idx [.var 0, .lit (.int 0)]]]) [.ext 1 (.lc (.tup [.var 2, .var 3]) (.one 3) (.rng [.prim .len [.var 0]]) [.prim .gt [.prim .idx [.prim .idx [.var 0, .var 3], .var 2], .lit (.int 0)]])],
  .ret (.var 1)]
def row__law_spots (i : Nat) : DRow := ⟨i, "_law_spots", 1, ["field", "made", "x", "y"], [], b__law_spots⟩
def f__law_spots : FnS := defR (lk []) 1 4 b__law_spots
def b_law_k01 : List Sm :=
  [.new 1 (.lst []),
  .asg (.one 2) (.call 9 [.var 0, .var 1, .lit (.int 6)]),
  .ite (.orE (.prim .isnot [.call 1 [.var 2], .lit (.bool true)]) (.prim .ne [.call 4 [.var 2], .call 10 [.var 2]])) [.ret (.lit (.bool false))] [],
  .new 3 (.lst [.lit .none, .lit (.int 5), .tup [], .tup [.tup []], .prim .listOf [.var 2], .prim .add [.prim (.slc false true) [.var 2, .prim .neg [.lit (.int 1)]], .tup [.prim .listOf [.prim .idx [.var 2, .prim .neg [.lit (.int 1)]]]]], .prim .add [.var 2, .tup [.prim .add [.prim .idx [.var 2, .lit (.int 0)], .tup [.lit (.int 0)]]]], .prim .add [.var 2, .tup [.prim (.slc true false) [.prim .idx [.var 2, .lit (.int 0)], .lit (.int 1)]]]]),
  .ext 3 (.lst [.prim .add [.prim (.slc false true) [.var 2, .prim .neg [.lit (.int 1)]], .tup [.prim .add [.prim (.slc true false) [.prim .idx [.var 2, .prim .neg [.lit (.int 1)]], .lit (.int 1)], .tup [.lit (.int 10)]]]], .prim .add [.prim (.slc false true) [.var 2, .prim .neg [.lit (.int 1)]], .tup [.prim .add [.prim (.slc true false) [.prim .idx [.var 2, .prim .neg [.lit (.int 1)]], .lit (.int 1)], .tup [.prim .neg [.lit (.int 1)]]]]], .tup [.prim .mul [.tup [.lit (.int 0)], .lit (.int 7)]], .prim .mul [.tup [.tup [.lit (.int 0)]], .lit (.int 7)]]),
  .ext 3 (.lst [.prim .add [.prim (.slc false true) [.var 2, .prim .neg [.lit (.int 1)]], .tup [.prim .add [.prim (.slc true false) [.prim .idx [.var 2, .prim .neg [.lit (.int 1)]], .lit (.int 1)], .tup [.lit (.bool true)]]]], .prim .add [.prim (.slc false true) [.var 2, .prim .neg [.lit (.int 1)]], .tup [.prim .add [.prim (.slc true false) [.prim .idx [.var 2, .prim .neg [.lit (.int 1)]], .lit (.int 1)], .tup [.lit (.str "1")]]]], .prim .add [.prim (.slc false true) [.var 2, .prim .neg [.lit (.int 1)]], .tup [.lit .none]]]),
  .ret (.prim .eq [.lc (.call 1 [.var 4]) (.one 4) (.seq (.var 3)) [], .prim .mul [.lst [.lit (.bool false)], .prim .len [.var 3]]])]
def row_law_k01 (i : Nat) : DRow := ⟨i, "law", 1, ["script", "town", "own", "odds", "odd"], [(9, "_law_field"), (4, "open_points"), (10, "_law_spots"), (1, "is_grid")], b_law_k01⟩
def f_law_k01 : FnS := defR (lk [(9, f__law_field), (4, f_open_points), (10, f__law_spots), (1, f_is_grid)]) 1 5 b_law_k01
def b_weight_at : List Sm :=
  [.asg (.many [2, 3]) (.var 1),
  .ret (.ite (.andE (.chain .le .lt (.lit (.int 0)) (.var 3) (.prim .len [.var 0])) (.chain .le .lt (.lit (.int 0)) (.var 2) (.prim .len [.prim .idx [.var 0, .lit (.int 0)]]))) (.prim .idx [.prim .idx [.var 0, .var 3], .var 2]) (.lit (.int 0)))]
def row_weight_at (i : Nat) : DRow := ⟨i, "weight_at", 2, ["grid", "point", "x", "y"], [], b_weight_at⟩
def f_weight_at : FnS := defR (lk []) 2 4 b_weight_at
def b_is_open : List Sm :=
  [.ite (.orE (.notE (.prim (.isi .tuple) [.var 1])) (.orE (.prim .ne [.prim .len [.var 1], .lit (.int 2)]) (.notE (.prim .all [.lc (.call 0 [.var 2, .lit (.int 0), .glb "SIDE" (.int 6)]) (.one 2) (.seq (.var 1)) []])))) [.ret (.lit (.bool false))] [],
  .ret (.prim .gt [.call 12 [.var 0, .var 1], .lit (.int 0)])]
def row_is_open (i : Nat) : DRow := ⟨i, "is_open", 2, ["grid", "value", "one"], [(0, "is_integer"), (12, "weight_at")], b_is_open⟩
def f_is_open : FnS := defR (lk [(0, f_is_integer), (12, f_weight_at)]) 2 3 b_is_open
def b_after : List Sm :=
  [.ret (.lst [.tup [.prim .add [.prim .idx [.var 0, .lit (.int 0)], .lit (.int 1)], .prim .idx [.var 0, .lit (.int 1)]], .tup [.prim .idx [.var 0, .lit (.int 0)], .prim .add [.prim .idx [.var 0, .lit (.int 1)], .lit (.int 1)]]])]
def row_after (i : Nat) : DRow := ⟨i, "after", 1, ["point"], [], b_after⟩
def f_after : FnS := defR (lk []) 1 1 b_after
def b_valid_path : List Sm :=
  [.ite (.orE (.notE (.prim (.isi .tuple) [.var 1])) (.orE (.prim .eq [.var 1, .tup []]) (.notE (.prim .all [.lc (.call 13 [.var 0, .var 4]) (.one 4) (.seq (.var 1)) []])))) [.ret (.lit (.bool false))] [],
  .ret (.prim .all [.lc (.prim .inn [.var 3, .call 14 [.var 2]]) (.many [2, 3]) (.zip [.var 1, .prim (.slc true false) [.var 1, .lit (.int 1)]]) []])]
def row_valid_path (i : Nat) : DRow := ⟨i, "valid_path", 2, ["grid", "value", "one", "other", "point"], [(13, "is_open"), (14, "after")], b_valid_path⟩
def f_valid_path : FnS := defR (lk [(13, f_is_open), (14, f_after)]) 2 5 b_valid_path
def b_is_path : List Sm :=
  [.exp (.call 2 [.var 0]),
  .ret (.call 15 [.var 0, .var 1])]
def row_is_path (i : Nat) : DRow := ⟨i, "is_path", 2, ["grid", "value"], [(2, "check_grid"), (15, "valid_path")], b_is_path⟩
def f_is_path : FnS := defR (lk [(2, f_check_grid), (15, f_valid_path)]) 2 2 b_is_path
def b_path_list : List Sm :=
  [.par 4 5 true true (.lst []) (.lst []),
  .ite (.andE (.prim .notin [.var 1, .var 3]) (.prim .notin [.var 2, .var 3])) [.app 5 (.tup [.var 1])] [],
  .whl 100000 (.prim .ne [.var 5, .lst []]) [.asg (.one 6) (.pop 5),
    .ite (.prim .eq [.prim .idx [.var 6, .prim .neg [.lit (.int 1)]], .var 2]) [.app 4 (.var 6)] [.forS (.one 7) (.seq (.call 14 [.prim .idx [.var 6, .prim .neg [.lit (.int 1)]]])) [.asg (.one 8) (.andE (.prim .le [.prim .idx [.var 7, .lit (.int 0)], .prim .idx [.var 2, .lit (.int 0)]]) (.prim .le [.prim .idx [.var 7, .lit (.int 1)], .prim .idx [.var 2, .lit (.int 1)]])),
        .ite (.andE (.var 8) (.andE (.prim .gt [.call 12 [.var 0, .var 7], .lit (.int 0)]) (.prim .notin [.var 7, .var 3]))) [.app 5 (.prim .add [.var 6, .tup [.var 7]])] []]]],
  .ret (.prim .sorted [.var 4])]
def row_path_list (i : Nat) : DRow := ⟨i, "path_list", 4, ["grid", "start", "end", "closed", "found", "line", "path", "point", "near"], [(14, "after"), (12, "weight_at")], b_path_list⟩
def f_path_list : FnS := defR (lk [(14, f_after), (12, f_weight_at)]) 4 9 b_path_list
def b_check_points : List Sm :=
  [.exp (.call 2 [.var 0]),
  .ite (.orE (.notE (.call 13 [.var 0, .var 1])) (.notE (.call 13 [.var 0, .var 2]))) [.raise 2] []]
def row_check_points (i : Nat) : DRow := ⟨i, "check_points", 3, ["grid", "start", "end"], [(2, "check_grid"), (13, "is_open")], b_check_points⟩
def f_check_points : FnS := defR (lk [(2, f_check_grid), (13, f_is_open)]) 3 3 b_check_points
def b_paths : List Sm :=
  [.exp (.call 18 [.var 0, .var 1, .var 2]),
  .ret (.call 17 [.var 0, .var 1, .var 2, .lst []])]
def row_paths (i : Nat) : DRow := ⟨i, "paths", 3, ["grid", "start", "end"], [(18, "check_points"), (17, "path_list")], b_paths⟩
def f_paths : FnS := defR (lk [(18, f_check_points), (17, f_path_list)]) 3 3 b_paths
def b_weight_of : List Sm :=
  [.asg (.one 2) (.lit (.int 1)),
  .forS (.one 3) (.seq (.var 1)) [.aug .mulI 2 (.call 12 [.var 0, .var 3])],
  .ret (.var 2)]
def row_weight_of (i : Nat) : DRow := ⟨i, "weight_of", 2, ["grid", "path", "result", "point"], [(12, "weight_at")], b_weight_of⟩
def f_weight_of : FnS := defR (lk [(12, f_weight_at)]) 2 4 b_weight_of
def b_weight : List Sm :=
  [.exp (.call 2 [.var 0]),
  .ite (.notE (.call 15 [.var 0, .var 1])) [.raise 3] [],
  .ret (.call 20 [.var 0, .var 1])]
def row_weight (i : Nat) : DRow := ⟨i, "weight", 2, ["grid", "path"], [(2, "check_grid"), (15, "valid_path"), (20, "weight_of")], b_weight⟩
def f_weight : FnS := defR (lk [(2, f_check_grid), (15, f_valid_path), (20, f_weight_of)]) 2 2 b_weight
def b_sum_between : List Sm :=
  [.newD1 3 (.var 1) (.call 12 [.var 0, .var 1]),
  .forS (.one 4) (.rng [.prim .idx [.var 1, .lit (.int 0)], .prim .add [.prim .idx [.var 2, .lit (.int 0)], .lit (.int 1)]]) [.forS (.one 5) (.rng [.prim .idx [.var 1, .lit (.int 1)], .prim .add [.prim .idx [.var 2, .lit (.int 1)], .lit (.int 1)]]) [.ite (.prim .ne [.tup [.var 4, .var 5], .var 1]) [.asg (.one 6) (.prim .add [.dget 3 (.tup [.prim .sub [.var 4, .lit (.int 1)], .var 5]) (.lit (.int 0)), .dget 3 (.tup [.var 4, .prim .sub [.var 5, .lit (.int 1)]]) (.lit (.int 0))]),
        .dput 3 (.tup [.var 4, .var 5]) (.prim .mul [.var 6, .call 12 [.var 0, .tup [.var 4, .var 5]]])] []]],
  .ret (.dget 3 (.var 2) (.lit (.int 0)))]
def row_sum_between (i : Nat) : DRow := ⟨i, "sum_between", 3, ["grid", "start", "end", "sums", "x", "y", "before"], [(12, "weight_at")], b_sum_between⟩
def f_sum_between : FnS := defR (lk [(12, f_weight_at)]) 3 7 b_sum_between
def b_total : List Sm :=
  [.exp (.call 18 [.var 0, .var 1, .var 2]),
  .ret (.call 22 [.var 0, .var 1, .var 2])]
def row_total (i : Nat) : DRow := ⟨i, "total", 3, ["grid", "start", "end"], [(18, "check_points"), (22, "sum_between")], b_total⟩
def f_total : FnS := defR (lk [(18, f_check_points), (22, f_sum_between)]) 3 3 b_total
def b__law_same_number : List Sm :=
  [.ret (.andE (.prim (.isi .int) [.var 0]) (.andE (.notE (.prim (.isi .bool) [.var 0])) (.prim .eq [.var 0, .var 1])))]
def row__law_same_number (i : Nat) : DRow := ⟨i, "_law_same_number", 2, ["got", "due"], [], b__law_same_number⟩
def f__law_same_number : FnS := defR (lk []) 2 2 b__law_same_number
def b__law_opened : List Sm :=
  [.asg (.one 3) (.call 9 [.var 0, .var 1, .var 2]),
  .ret (.ite (.prim .ne [.call 10 [.var 3], .lst []]) (.var 3) (.tup [.tup [.lit (.int 1)]]))]
def row__law_opened (i : Nat) : DRow := ⟨i, "_law_opened", 3, ["script", "town", "most", "field"], [(9, "_law_field"), (10, "_law_spots")], b__law_opened⟩
def f__law_opened : FnS := defR (lk [(9, f__law_field), (10, f__law_spots)]) 3 4 b__law_opened
def b__law_ways_between : List Sm :=
  [.ite (.prim .eq [.var 1, .var 2]) [.ret (.lst [.tup [.var 1]])] [],
  .new 3 (.lst []),
  .forS (.many [4, 5]) (.seq (.lst [.tup [.prim .idx [.var 1, .lit (.int 0)], .prim .add [.prim .idx [.var 1, .lit (.int 1)], .lit (.int 1)]], .tup [.prim .add [.prim .idx [.var 1, .lit (.int 0)], .lit (.int 1)], .prim .idx [.var 1, .lit (.int 1)]]])) [.ite (.andE (.prim .le [.var 4, .prim .idx [.var 2, .lit (.int 0)]]) (.andE (.prim .le [.var 5, .prim .idx [.var 2, .lit (.int 1)]]) (.prim .gt [.prim .idx [.prim .idx [.var 0, .var 5], .var 4], .lit (.int 0)]))) [.ext 3 (.lc (.prim .add [.tup [.var 1], .var 6]) (.one 6) (.seq (.call 26 [.var 0, .tup [.var 4, .var 5], .var 2])) [])] []],
  .ret (.var 3)]
def row__law_ways_between (i : Nat) : DRow := ⟨i, "_law_ways_between", 3, ["field", "start", "end", "made", "x", "y", "rest"], [(26, "_law_ways_between")], b__law_ways_between⟩
def f__law_ways_between : Nat → FnS
  | 0 => fun _ => .bad
  | n + 1 => defR (lk [(26, f__law_ways_between n)]) 3 7 b__law_ways_between
def b__law_heft : List Sm :=
  [.asg (.one 2) (.lit (.int 1)),
  .forS (.many [3, 4]) (.seq (.var 1)) [.asg (.one 2) (.prim .mul [.var 2, .prim .idx [.prim .idx [.var 0, .var 4], .var 3]])],
  .ret (.var 2)]
def row__law_heft (i : Nat) : DRow := ⟨i, "_law_heft", 2, ["field", "road", "value", "x", "y"], [], b__law_heft⟩
def f__law_heft : FnS := defR (lk []) 2 5 b__law_heft
def b_law_k02 : List Sm :=
  [.new 1 (.lst []),
  .asg (.one 2) (.call 25 [.var 0, .var 1, .lit (.int 5)]),
  .asg (.one 3) (.call 10 [.var 2]),
  .par 6 7 false false (.call 8 [.var 0, .var 1, .var 3]) (.call 8 [.var 0, .var 1, .var 3]),
  .ite (.prim .eq [.call 7 [.var 0, .var 1, .lit (.int 2)], .lit (.int 0)]) [.par 6 7 false false (.prim .minl [.lst [.var 6, .var 7]]) (.prim .maxl [.lst [.var 6, .var 7]])] [],
  .asg (.one 4) (.ite (.andE (.prim .le [.prim .idx [.var 6, .lit (.int 0)], .prim .idx [.var 7, .lit (.int 0)]]) (.prim .le [.prim .idx [.var 6, .lit (.int 1)], .prim .idx [.var 7, .lit (.int 1)]])) (.call 26 [.var 2, .var 6, .var 7]) (.lst [])),
  .ite (.orE (.prim .ne [.call 19 [.var 2, .var 6, .var 7], .var 4]) (.prim .ne [.prim .sorted [.var 4], .var 4])) [.ret (.lit (.bool false))] [],
  .ite (.notE (.call 24 [.call 23 [.var 2, .var 6, .var 7], .prim .sum [.lc (.call 27 [.var 2, .var 5]) (.one 5) (.seq (.var 4)) []]])) [.ret (.lit (.bool false))] [],
  .forS (.one 5) (.seq (.prim (.slc false true) [.var 4, .lit (.int 3)])) [.ite (.orE (.prim .isnot [.call 16 [.var 2, .var 5], .lit (.bool true)]) (.notE (.call 24 [.call 21 [.var 2, .var 5], .call 27 [.var 2, .var 5]]))) [.ret (.lit (.bool false))] [],
    .new 8 (.lst [.prim .listOf [.var 5], .prim .add [.var 5, .tup [.prim .idx [.var 5, .prim .neg [.lit (.int 1)]]]], .prim .add [.prim (.slc false true) [.var 5, .lit (.int 1)], .var 5], .prim .add [.var 5, .tup [.lit .none]], .prim .add [.var 5, .tup [.tup [.prim .add [.prim .idx [.var 6, .lit (.int 0)], .lit (.int 9)], .lit (.int 0)]]]]),
    .ite (.prim .gt [.prim .len [.var 5], .lit (.int 1)]) [.ext 8 (.lst [.prim .rev [.var 5], .prim .add [.prim (.slc false true) [.var 5, .prim .neg [.lit (.int 1)]], .tup [.tup [.prim .idx [.prim .idx [.var 5, .prim .neg [.lit (.int 1)]], .lit (.int 0)], .lit (.bool true)]]], .prim .add [.prim (.slc false true) [.var 5, .prim .neg [.lit (.int 1)]], .tup [.lst [.lit (.int 1), .lit (.int 1)]]]]),
      .app 8 (.prim .add [.prim (.slc false true) [.var 5, .prim .neg [.lit (.int 1)]], .tup [.tup [.lit (.int 0), .lit (.str "0")]]])] [],
    .ite (.prim .gt [.prim .len [.var 5], .lit (.int 2)]) [.app 8 (.prim .add [.prim (.slc false true) [.var 5, .lit (.int 1)], .prim (.slc true false) [.var 5, .lit (.int 2)]])] [],
    .ite (.prim .ne [.lc (.call 16 [.var 2, .var 9]) (.one 9) (.seq (.var 8)) [], .prim .mul [.lst [.lit (.bool false)], .prim .len [.var 8]]]) [.ret (.lit (.bool false))] []],
  .ret (.andE (.prim .is [.call 16 [.var 2, .tup []], .lit (.bool false)]) (.andE (.prim .is [.call 16 [.var 2, .lit .none], .lit (.bool false)]) (.prim .is [.call 16 [.var 2, .tup [.var 6]], .lit (.bool true)])))]
def row_law_k02 (i : Nat) : DRow := ⟨i, "law", 1, ["script", "town", "own", "spots", "roads", "road", "start", "end", "odds", "odd"], [(25, "_law_opened"), (10, "_law_spots"), (8, "_law_pick"), (7, "_law_draw"), (26, "_law_ways_between"), (19, "paths"), (24, "_law_same_number"), (23, "total"), (27, "_law_heft"), (21, "weight"), (16, "is_path")], b_law_k02⟩
def f_law_k02 : FnS := defR (lk [(25, f__law_opened), (10, f__law_spots), (8, f__law_pick), (7, f__law_draw), (26, f__law_ways_between 12), (19, f_paths), (24, f__law_same_number), (23, f_total), (27, f__law_heft), (21, f_weight), (16, f_is_path)]) 1 10 b_law_k02
def b_are_points : List Sm :=
  [.ite (.orE (.notE (.prim (.isi .tuple) [.var 1])) (.orE (.notE (.chain .le .le (.lit (.int 1)) (.prim .len [.var 1]) (.lit (.int 3)))) (.notE (.prim .all [.lc (.call 13 [.var 0, .var 2]) (.one 2) (.seq (.var 1)) []])))) [.ret (.lit (.bool false))] [],
  .ret (.prim .eq [.prim .nset [.var 1], .prim .len [.var 1]])]
def row_are_points (i : Nat) : DRow := ⟨i, "are_points", 2, ["grid", "value", "one"], [(13, "is_open")], b_are_points⟩
def f_are_points : FnS := defR (lk [(13, f_is_open)]) 2 3 b_are_points
def b_are_lines : List Sm :=
  [.ite (.orE (.notE (.prim (.isi .tuple) [.var 1])) (.orE (.prim .ne [.prim .len [.var 1], .lit (.int 2)]) (.notE (.prim .all [.lc (.call 29 [.var 0, .var 2]) (.one 2) (.seq (.var 1)) []])))) [.ret (.lit (.bool false))] [],
  .ret (.prim .eq [.prim .len [.prim .idx [.var 1, .lit (.int 0)]], .prim .len [.prim .idx [.var 1, .lit (.int 1)]]])]
def row_are_lines (i : Nat) : DRow := ⟨i, "are_lines", 2, ["grid", "value", "one"], [(29, "are_points")], b_are_lines⟩
def f_are_lines : FnS := defR (lk [(29, f_are_points)]) 2 3 b_are_lines
def b_check_lines : List Sm :=
  [.exp (.call 2 [.var 0]),
  .ite (.notE (.call 30 [.var 0, .var 1])) [.raise 4] []]
def row_check_lines (i : Nat) : DRow := ⟨i, "check_lines", 2, ["grid", "lines"], [(2, "check_grid"), (30, "are_lines")], b_check_lines⟩
def f_check_lines : FnS := defR (lk [(2, f_check_grid), (30, f_are_lines)]) 2 2 b_check_lines
def b_rows_of : List Sm :=
  [.ret (.prim .tupOf [.lc (.prim .tupOf [.lc (.call 22 [.var 0, .var 2, .var 3]) (.one 3) (.seq (.prim .idx [.var 1, .lit (.int 1)])) []]) (.one 2) (.seq (.prim .idx [.var 1, .lit (.int 0)])) []])]
def row_rows_of (i : Nat) : DRow := ⟨i, "rows_of", 2, ["grid", "lines", "start", "end"], [(22, "sum_between")], b_rows_of⟩
def f_rows_of : FnS := defR (lk [(22, f_sum_between)]) 2 4 b_rows_of
def b_matrix : List Sm :=
  [.exp (.call 31 [.var 0, .var 1]),
  .ret (.call 32 [.var 0, .var 1])]
def row_matrix (i : Nat) : DRow := ⟨i, "matrix", 2, ["grid", "lines"], [(31, "check_lines"), (32, "rows_of")], b_matrix⟩
def f_matrix : FnS := defR (lk [(31, f_check_lines), (32, f_rows_of)]) 2 2 b_matrix
def b_value_of : List Sm :=
  [.ite (.prim .eq [.prim .len [.var 0], .lit (.int 0)]) [.ret (.lit (.int 1))] [],
  .asg (.many [1, 2]) (.tup [.lit (.int 0), .lit (.int 1)]),
  .forS (.many [3, 4]) (.enum (.prim .idx [.var 0, .lit (.int 0)])) [.asg (.one 5) (.lc (.prim .add [.prim (.slc false true) [.var 6, .var 3], .prim (.slc true false) [.var 6, .prim .add [.var 3, .lit (.int 1)]]]) (.one 6) (.seq (.prim (.slc true false) [.var 0, .lit (.int 1)])) []),
    .aug .addI 1 (.prim .mul [.prim .mul [.var 2, .var 4], .call 34 [.var 5]]),
    .asg (.one 2) (.prim .sub [.lit (.int 0), .var 2])],
  .ret (.var 1)]
def row_value_of (i : Nat) : DRow := ⟨i, "value_of", 1, ["rows", "result", "sign", "at", "entry", "rest", "row"], [(34, "value_of")], b_value_of⟩
def f_value_of : Nat → FnS
  | 0 => fun _ => .bad
  | n + 1 => defR (lk [(34, f_value_of n)]) 1 7 b_value_of
def b_determinant : List Sm :=
  [.exp (.call 31 [.var 0, .var 1]),
  .ret (.call 34 [.call 32 [.var 0, .var 1]])]
def row_determinant (i : Nat) : DRow := ⟨i, "determinant", 2, ["grid", "lines"], [(31, "check_lines"), (34, "value_of"), (32, "rows_of")], b_determinant⟩
def f_determinant : FnS := defR (lk [(31, f_check_lines), (34, f_value_of 12), (32, f_rows_of)]) 2 2 b_determinant
def b__law_some_lines : List Sm :=
  [.asg (.one 4) (.call 10 [.var 2]),
  .asg (.one 5) (.prim .min2 [.prim .add [.lit (.int 1), .call 7 [.var 0, .var 1, .lit (.int 3)]], .prim .len [.var 4]]),
  .new 6 (.lst []),
  .forS (.one 7) (.rng [.lit (.int 2)]) [.par 10 11 true true (.prim .listOf [.var 4]) (.lst []),
    .forS (.one 9) (.rng [.var 5]) [.asg (.one 12) (.call 8 [.var 0, .var 1, .var 10]),
      .rem 10 (.var 12),
      .app 11 (.var 12)],
    .ite (.var 3) [.par 13 11 false true (.lc (.tup [.prim .sub [.lit (.int 0), .var 14], .var 15]) (.many [14, 15]) (.seq (.prim .sorted [.lc (.tup [.prim .sub [.lit (.int 0), .var 14], .var 15]) (.many [14, 15]) (.seq (.var 11)) []])) []) (.lst []),
      .forS (.many [14, 15]) (.seq (.var 13)) [.ite (.orE (.prim .eq [.var 11, .lst []]) (.prim .ge [.var 15, .prim .idx [.prim .idx [.var 11, .prim .neg [.lit (.int 1)]], .lit (.int 1)]])) [.app 11 (.tup [.var 14, .var 15])] []]] [],
    .app 6 (.prim .tupOf [.var 11])],
  .asg (.one 8) (.prim .min2 [.prim .len [.prim .idx [.var 6, .lit (.int 0)]], .prim .len [.prim .idx [.var 6, .lit (.int 1)]]]),
  .ret (.tup [.prim (.slc false true) [.prim .idx [.var 6, .lit (.int 0)], .var 8], .prim (.slc false true) [.prim .idx [.var 6, .lit (.int 1)], .var 8]])]
def row__law_some_lines (i : Nat) : DRow := ⟨i, "_law_some_lines", 4, ["script", "town", "field", "line_up", "spots", "count", "made", "again", "many", "one", "left", "chosen", "point", "some", "x", "y"], [(10, "_law_spots"), (7, "_law_draw"), (8, "_law_pick")], b__law_some_lines⟩
def f__law_some_lines : FnS := defR (lk [(10, f__law_spots), (7, f__law_draw), (8, f__law_pick)]) 4 16 b__law_some_lines
def b__law_together : List Sm :=
  [.asg (.one 3) (.lst [.tup [.tup [], .lit (.int 1), .tup []]]),
  .forS (.many [4, 5]) (.zip [.prim .idx [.var 1, .lit (.int 0)], .var 2]) [.asg (.one 6) (.lc (.tup [.var 11, .call 27 [.var 0, .var 11]]) (.one 11) (.seq (.call 26 [.var 0, .var 4, .var 5])) []),
    .new 7 (.lst []),
    .forS (.many [8, 9, 10]) (.seq (.var 3)) [.forS (.many [11, 12]) (.seq (.var 6)) [.ite (.prim .eq [.lc (.var 13) (.one 13) (.seq (.var 11)) [.prim .inn [.var 13, .var 10]], .lst []]) [.app 7 (.tup [.prim .add [.var 8, .tup [.var 11]], .prim .mul [.var 9, .var 12], .prim .add [.var 10, .var 11]])] []]],
    .asg (.one 3) (.var 7)],
  .ret (.var 3)]
def row__law_together (i : Nat) : DRow := ⟨i, "_law_together", 3, ["field", "lines", "targets", "made", "start", "end", "roads", "later", "some", "value", "used", "road", "more", "point"], [(27, "_law_heft"), (26, "_law_ways_between")], b__law_together⟩
def f__law_together : FnS := defR (lk [(27, f__law_heft), (26, f__law_ways_between 12)]) 3 14 b__law_together
def b__law_turns : List Sm :=
  [.asg (.one 1) (.lst [.tup [.tup [], .lit (.int 1)]]),
  .forS (.one 2) (.rng [.var 0]) [.new 3 (.lst []),
    .forS (.many [4, 5]) (.seq (.var 1)) [.forS (.one 6) (.rng [.prim .add [.prim .len [.var 4], .lit (.int 1)]]) [.app 3 (.tup [.prim .add [.prim .add [.prim (.slc false true) [.var 4, .var 6], .tup [.var 2]], .prim (.slc true false) [.var 4, .var 6]], .ite (.prim .eq [.prim .mod [.prim .sub [.prim .len [.var 4], .var 6], .lit (.int 2)], .lit (.int 0)]) (.var 5) (.prim .sub [.lit (.int 0), .var 5])])]],
    .asg (.one 1) (.var 3)],
  .ret (.var 1)]
def row__law_turns (i : Nat) : DRow := ⟨i, "_law_turns", 1, ["count", "made", "one", "later", "order", "sign", "at"], [], b__law_turns⟩
def f__law_turns : FnS := defR (lk []) 1 7 b__law_turns
def b_law_k03 : List Sm :=
  [.new 1 (.lst []),
  .asg (.one 2) (.call 25 [.var 0, .var 1, .lit (.int 4)]),
  .asg (.one 3) (.call 36 [.var 0, .var 1, .var 2, .prim .eq [.call 7 [.var 0, .var 1, .lit (.int 2)], .lit (.int 0)]]),
  .asg (.one 4) (.prim .len [.prim .idx [.var 3, .lit (.int 0)]]),
  .new 5 (.lst []),
  .forS (.one 6) (.seq (.prim .idx [.var 3, .lit (.int 0)])) [.new 7 (.lst []),
    .forS (.one 8) (.seq (.prim .idx [.var 3, .lit (.int 1)])) [.asg (.one 14) (.ite (.andE (.prim .le [.prim .idx [.var 6, .lit (.int 0)], .prim .idx [.var 8, .lit (.int 0)]]) (.prim .le [.prim .idx [.var 6, .lit (.int 1)], .prim .idx [.var 8, .lit (.int 1)]])) (.call 26 [.var 2, .var 6, .var 8]) (.lst [])),
      .app 7 (.prim .sum [.lc (.call 27 [.var 2, .var 18]) (.one 18) (.seq (.var 14)) []])],
    .app 5 (.prim .tupOf [.var 7])],
  .ite (.prim .ne [.call 33 [.var 2, .var 3], .prim .tupOf [.var 5]]) [.ret (.lit (.bool false))] [],
  .asg (.many [9, 10]) (.tup [.lit (.int 0), .lit (.int 0)]),
  .forS (.many [11, 12]) (.seq (.call 38 [.var 4])) [.asg (.one 13) (.var 12),
    .forS (.many [15, 16]) (.enum (.var 11)) [.asg (.one 13) (.prim .mul [.var 13, .prim .idx [.prim .idx [.var 5, .var 15], .var 16]])],
    .aug .addI 10 (.var 13),
    .ite (.prim .ne [.var 13, .lit (.int 0)]) [.asg (.one 17) (.call 37 [.var 2, .var 3, .lc (.prim .idx [.prim .idx [.var 3, .lit (.int 1)], .var 16]) (.one 16) (.seq (.var 11)) []]),
      .aug .addI 9 (.prim .mul [.var 12, .prim .sum [.lc (.var 19) (.many [14, 19, 20]) (.seq (.var 17)) []]])] []],
  .ret (.andE (.prim .eq [.var 9, .var 10]) (.call 24 [.call 35 [.var 2, .var 3], .var 9]))]
def row_law_k03 (i : Nat) : DRow := ⟨i, "law", 1, ["script", "town", "own", "lines", "count", "rows", "start", "row", "end", "apart", "every", "order", "sign", "product", "some", "at", "to", "found", "road", "value", "used"], [(25, "_law_opened"), (36, "_law_some_lines"), (7, "_law_draw"), (26, "_law_ways_between"), (27, "_law_heft"), (33, "matrix"), (38, "_law_turns"), (37, "_law_together"), (24, "_law_same_number"), (35, "determinant")], b_law_k03⟩
def f_law_k03 : FnS := defR (lk [(25, f__law_opened), (36, f__law_some_lines), (7, f__law_draw), (26, f__law_ways_between 12), (27, f__law_heft), (33, f_matrix), (38, f__law_turns), (37, f__law_together), (24, f__law_same_number), (35, f_determinant)]) 1 21 b_law_k03
def b_valid_system : List Sm :=
  [.ite (.orE (.notE (.prim (.isi .tuple) [.var 2])) (.orE (.prim .ne [.prim .len [.var 2], .prim .len [.prim .idx [.var 1, .lit (.int 0)]]]) (.notE (.prim .all [.lc (.call 15 [.var 0, .var 4]) (.one 4) (.seq (.var 2)) []])))) [.ret (.lit (.bool false))] [],
  .ite (.notE (.prim .all [.lc (.prim .eq [.prim .idx [.var 3, .lit (.int 0)], .var 5]) (.many [3, 5]) (.zip [.var 2, .prim .idx [.var 1, .lit (.int 0)]]) []])) [.ret (.lit (.bool false))] [],
  .ret (.prim .eq [.prim .sorted [.lc (.prim .idx [.var 3, .prim .neg [.lit (.int 1)]]) (.one 3) (.seq (.var 2)) []], .prim .sorted [.prim .idx [.var 1, .lit (.int 1)]]])]
def row_valid_system (i : Nat) : DRow := ⟨i, "valid_system", 3, ["grid", "lines", "value", "path", "one", "start"], [(15, "valid_path")], b_valid_system⟩
def f_valid_system : FnS := defR (lk [(15, f_valid_path)]) 3 6 b_valid_system
def b_is_system : List Sm :=
  [.exp (.call 31 [.var 0, .var 1]),
  .ret (.call 40 [.var 0, .var 1, .var 2])]
def row_is_system (i : Nat) : DRow := ⟨i, "is_system", 3, ["grid", "lines", "value"], [(31, "check_lines"), (40, "valid_system")], b_is_system⟩
def f_is_system : FnS := defR (lk [(31, f_check_lines), (40, f_valid_system)]) 3 3 b_is_system
def b_check_system : List Sm :=
  [.exp (.call 31 [.var 0, .var 1]),
  .ite (.notE (.call 40 [.var 0, .var 1, .var 2])) [.raise 5] []]
def row_check_system (i : Nat) : DRow := ⟨i, "check_system", 3, ["grid", "lines", "system"], [(31, "check_lines"), (40, "valid_system")], b_check_system⟩
def f_check_system : FnS := defR (lk [(31, f_check_lines), (40, f_valid_system)]) 3 3 b_check_system
def b_points_of : List Sm :=
  [.new 1 (.lst []),
  .forS (.one 2) (.seq (.var 0)) [.ext 1 (.prim .listOf [.var 2])],
  .ret (.var 1)]
def row_points_of (i : Nat) : DRow := ⟨i, "points_of", 1, ["system", "result", "path"], [], b_points_of⟩
def f_points_of : FnS := defR (lk []) 1 3 b_points_of
def b_keeps_apart : List Sm :=
  [.asg (.one 1) (.call 43 [.var 0]),
  .ret (.prim .eq [.prim .nset [.var 1], .prim .len [.var 1]])]
def row_keeps_apart (i : Nat) : DRow := ⟨i, "keeps_apart", 1, ["system", "some"], [(43, "points_of")], b_keeps_apart⟩
def f_keeps_apart : FnS := defR (lk [(43, f_points_of)]) 1 2 b_keeps_apart
def b_is_apart : List Sm :=
  [.exp (.call 31 [.var 0, .var 1]),
  .ret (.andE (.call 40 [.var 0, .var 1, .var 2]) (.call 44 [.var 2]))]
def row_is_apart (i : Nat) : DRow := ⟨i, "is_apart", 3, ["grid", "lines", "value"], [(31, "check_lines"), (44, "keeps_apart"), (40, "valid_system")], b_is_apart⟩
def f_is_apart : FnS := defR (lk [(31, f_check_lines), (44, f_keeps_apart), (40, f_valid_system)]) 3 3 b_is_apart
def b_order_of : List Sm :=
  [.ret (.prim .tupOf [.lc (.tix (.prim .idx [.var 0, .lit (.int 1)]) (.prim .idx [.var 2, .prim .neg [.lit (.int 1)]])) (.one 2) (.seq (.var 1)) []])]
def row_order_of (i : Nat) : DRow := ⟨i, "order_of", 2, ["lines", "system", "path"], [], b_order_of⟩
def f_order_of : FnS := defR (lk []) 2 3 b_order_of
def b_permutation : List Sm :=
  [.exp (.call 42 [.var 0, .var 1, .var 2]),
  .ret (.call 46 [.var 1, .var 2])]
def row_permutation (i : Nat) : DRow := ⟨i, "permutation", 3, ["grid", "lines", "system"], [(42, "check_system"), (46, "order_of")], b_permutation⟩
def f_permutation : FnS := defR (lk [(42, f_check_system), (46, f_order_of)]) 3 3 b_permutation
def b_straight_systems : List Sm :=
  [.par 3 4 true true (.lst []) (.lst [.tup []]),
  .whl 1000000 (.andE (.prim .ne [.var 4, .lst []]) (.prim .lt [.prim .len [.var 3], .var 2])) [.asg (.one 5) (.pop 4),
    .asg (.one 6) (.prim .len [.var 5]),
    .ite (.prim .eq [.var 6, .prim .len [.prim .idx [.var 1, .lit (.int 0)]]]) [.app 3 (.var 5)] [.asg (.one 7) (.call 17 [.var 0, .prim .idx [.prim .idx [.var 1, .lit (.int 0)], .var 6], .prim .idx [.prim .idx [.var 1, .lit (.int 1)], .var 6], .call 43 [.var 5]]),
      .ext 4 (.lc (.prim .add [.var 5, .tup [.var 8]]) (.one 8) (.seq (.prim .rev [.var 7])) [])]],
  .ret (.var 3)]
def row_straight_systems (i : Nat) : DRow := ⟨i, "straight_systems", 3, ["grid", "lines", "most", "found", "line", "system", "at", "some", "path"], [(17, "path_list"), (43, "points_of")], b_straight_systems⟩
def f_straight_systems : FnS := defR (lk [(17, f_path_list), (43, f_points_of)]) 3 9 b_straight_systems
def b_apart_systems : List Sm :=
  [.exp (.call 31 [.var 0, .var 1]),
  .asg (.one 2) (.call 48 [.var 0, .var 1, .prim .add [.glb "MOST" (.int 300), .lit (.int 1)]]),
  .ite (.prim .gt [.prim .len [.var 2], .glb "MOST" (.int 300)]) [.raise 12] [],
  .ret (.var 2)]
def row_apart_systems (i : Nat) : DRow := ⟨i, "apart_systems", 2, ["grid", "lines", "found"], [(31, "check_lines"), (48, "straight_systems")], b_apart_systems⟩
def f_apart_systems : FnS := defR (lk [(31, f_check_lines), (48, f_straight_systems)]) 2 3 b_apart_systems
def b__law_same_truth : List Sm :=
  [.ret (.andE (.prim (.isi .bool) [.var 0]) (.prim .eq [.var 0, .var 1]))]
def row__law_same_truth (i : Nat) : DRow := ⟨i, "_law_same_truth", 2, ["got", "due"], [], b__law_same_truth⟩
def f__law_same_truth : FnS := defR (lk []) 2 2 b__law_same_truth
def b__law_straight_apart : List Sm :=
  [.ret (.prim .sorted [.lc (.var 2) (.many [2, 3, 4]) (.seq (.call 37 [.var 0, .var 1, .prim .idx [.var 1, .lit (.int 1)]])) []])]
def row__law_straight_apart (i : Nat) : DRow := ⟨i, "_law_straight_apart", 2, ["field", "lines", "some", "value", "used"], [(37, "_law_together")], b__law_straight_apart⟩
def f__law_straight_apart : FnS := defR (lk [(37, f__law_together)]) 2 5 b__law_straight_apart
def b__law_which : List Sm :=
  [.stub,
  .stub,
  .stub,
  .stub,
  .stub,
  .stub,
  .stub]
def row__law_which (i : Nat) : DRow := ⟨i, "_law_which", 1, ["e", "own"], [], b__law_which⟩
def f__law_which : FnS := defR (lk []) 1 2 b__law_which
def b__law_roads_of : List Sm :=
  [.new 5 (.lst []),
  .forS (.many [6, 7]) (.zip [.prim .idx [.var 3, .lit (.int 0)], .var 4]) [.asg (.one 8) (.prim .idx [.prim .idx [.var 3, .lit (.int 1)], .var 7]),
    .asg (.one 9) (.ite (.andE (.prim .le [.prim .idx [.var 6, .lit (.int 0)], .prim .idx [.var 8, .lit (.int 0)]]) (.prim .le [.prim .idx [.var 6, .lit (.int 1)], .prim .idx [.var 8, .lit (.int 1)]])) (.call 26 [.var 2, .var 6, .var 8]) (.lst [])),
    .app 5 (.ite (.prim .ne [.var 9, .lst []]) (.call 8 [.var 0, .var 1, .var 9]) (.lit .none))],
  .ret (.var 5)]
def row__law_roads_of (i : Nat) : DRow := ⟨i, "_law_roads_of", 5, ["script", "town", "field", "lines", "order", "roads", "start", "to", "end", "some"], [(26, "_law_ways_between"), (8, "_law_pick")], b__law_roads_of⟩
def f__law_roads_of : FnS := defR (lk [(26, f__law_ways_between 12), (8, f__law_pick)]) 5 10 b__law_roads_of
def b__law_ask : List Sm :=
  [.ask 2 [.ret (.call 49 [.var 0, .var 1])]]
def row__law_ask (i : Nat) : DRow := ⟨i, "_law_ask", 2, ["own", "lines", "e"], [(49, "apart_systems")], b__law_ask⟩
def f__law_ask : FnS := defR (lk [(49, f_apart_systems)]) 2 3 b__law_ask
def b_law_k04 : List Sm :=
  [.new 1 (.lst []),
  .asg (.one 2) (.call 25 [.var 0, .var 1, .lit (.int 4)]),
  .asg (.one 3) (.call 36 [.var 0, .var 1, .var 2, .prim .eq [.call 7 [.var 0, .var 1, .lit (.int 2)], .lit (.int 0)]]),
  .asg (.one 4) (.call 51 [.var 2, .var 3]),
  .ite (.prim .ne [.call 54 [.var 2, .var 3], .ite (.prim .le [.prim .len [.var 4], .lit (.int 300)]) (.var 4) (.tup [.lit (.str "raised"), .lit (.int 11)])]) [.ret (.lit (.bool false))] [],
  .forS (.one 5) (.seq (.prim (.slc false true) [.var 4, .lit (.int 2)])) [.ite (.orE (.prim .isnot [.call 41 [.var 2, .var 3, .var 5], .lit (.bool true)]) (.prim .isnot [.call 45 [.var 2, .var 3, .var 5], .lit (.bool true)])) [.ret (.lit (.bool false))] [],
    .ite (.prim .ne [.call 47 [.var 2, .var 3, .var 5], .prim .rngT [.prim .len [.var 5]]]) [.ret (.lit (.bool false))] [],
    .new 9 (.lst [.prim .listOf [.var 5], .prim (.slc false true) [.var 5, .prim .neg [.lit (.int 1)]], .prim .add [.var 5, .prim (.slc false true) [.var 5, .lit (.int 1)]], .prim .add [.prim (.slc false true) [.var 5, .prim .neg [.lit (.int 1)]], .tup [.lit .none]], .prim .add [.prim (.slc false true) [.var 5, .prim .neg [.lit (.int 1)]], .tup [.prim (.slc false true) [.prim .idx [.var 5, .prim .neg [.lit (.int 1)]], .prim .neg [.lit (.int 1)]]]]]),
    .ite (.prim .gt [.prim .len [.var 5], .lit (.int 1)]) [.app 9 (.prim .rev [.var 5])] [],
    .ite (.prim .ne [.lc (.call 41 [.var 2, .var 3, .var 17]) (.one 17) (.seq (.var 9)) [], .prim .mul [.lst [.lit (.bool false)], .prim .len [.var 9]]]) [.ret (.lit (.bool false))] []],
  .asg (.one 6) (.call 53 [.var 0, .var 1, .var 2, .var 3, .prim .mul [.lst [.lit (.int 0)], .prim .len [.prim .idx [.var 3, .lit (.int 0)]]]]),
  .ite (.andE (.prim .gt [.prim .len [.var 6], .lit (.int 1)]) (.andE (.prim .notin [.lit .none, .var 6]) (.prim .isnot [.call 41 [.var 2, .var 3, .prim .tupOf [.var 6]], .lit (.bool false)]))) [.ret (.lit (.bool false))] [],
  .asg (.many [10, 11]) (.call 8 [.var 0, .var 1, .call 38 [.prim .len [.prim .idx [.var 3, .lit (.int 0)]]]]),
  .new 7 (.lst []),
  .forS (.many [12, 13]) (.zip [.prim .idx [.var 3, .lit (.int 0)], .var 10]) [.asg (.one 14) (.prim .idx [.prim .idx [.var 3, .lit (.int 1)], .var 13]),
    .asg (.one 15) (.ite (.andE (.prim .le [.prim .idx [.var 12, .lit (.int 0)], .prim .idx [.var 14, .lit (.int 0)]]) (.prim .le [.prim .idx [.var 12, .lit (.int 1)], .prim .idx [.var 14, .lit (.int 1)]])) (.call 26 [.var 2, .var 12, .var 14]) (.lst [])),
    .app 7 (.ite (.prim .ne [.var 15, .lst []]) (.call 8 [.var 0, .var 1, .var 15]) (.lit .none))],
  .ite (.prim .inn [.lit .none, .var 7]) [.ret (.prim .is [.call 41 [.var 2, .var 3, .prim .tupOf [.var 7]], .lit (.bool false)])] [],
  .asg (.one 8) (.prim .sumL [.lc (.prim .listOf [.var 16]) (.one 16) (.seq (.var 7)) []]),
  .ite (.orE (.prim .ne [.call 47 [.var 2, .var 3, .prim .tupOf [.var 7]], .var 10]) (.prim .isnot [.call 41 [.var 2, .var 3, .prim .tupOf [.var 7]], .lit (.bool true)])) [.ret (.lit (.bool false))] [],
  .ret (.call 50 [.call 45 [.var 2, .var 3, .prim .tupOf [.var 7]], .prim .eq [.prim .nset [.var 8], .prim .len [.var 8]]])]
def row_law_k04 (i : Nat) : DRow := ⟨i, "law", 1, ["script", "town", "own", "lines", "due", "system", "same", "roads", "points", "odds", "order", "sign", "start", "to", "end", "some", "road", "odd"], [(25, "_law_opened"), (36, "_law_some_lines"), (7, "_law_draw"), (51, "_law_straight_apart"), (54, "_law_ask"), (45, "is_apart"), (41, "is_system"), (47, "permutation"), (53, "_law_roads_of"), (8, "_law_pick"), (38, "_law_turns"), (26, "_law_ways_between"), (50, "_law_same_truth")], b_law_k04⟩
def f_law_k04 : FnS := defR (lk [(25, f__law_opened), (36, f__law_some_lines), (7, f__law_draw), (51, f__law_straight_apart), (54, f__law_ask), (45, f_is_apart), (41, f_is_system), (47, f_permutation), (53, f__law_roads_of), (8, f__law_pick), (38, f__law_turns), (26, f__law_ways_between 12), (50, f__law_same_truth)]) 1 18 b_law_k04
def b_exchanged : List Sm :=
  [.forS (.many [1, 2]) (.enum (.var 0)) [.forS (.many [3, 4]) (.enum (.var 2)) [.asg (.one 5) (.lc (.var 6) (.many [6, 7]) (.enum (.var 0)) [.andE (.prim .ne [.var 6, .var 1]) (.prim .inn [.var 4, .var 7])]),
      .ite (.prim .ne [.var 5, .lst []]) [.asg (.one 6) (.prim .idx [.var 5, .prim .neg [.lit (.int 1)]]),
        .asg (.one 7) (.prim .idx [.var 0, .var 6]),
        .asg (.one 8) (.tix (.var 7) (.var 4)),
        .new 9 (.prim .listOf [.var 0]),
        .seti 9 (.var 1) (.prim .add [.prim (.slc false true) [.var 2, .var 3], .prim (.slc true false) [.var 7, .var 8]]),
        .seti 9 (.var 6) (.prim .add [.prim (.slc false true) [.var 7, .var 8], .prim (.slc true false) [.var 2, .var 3]]),
        .ret (.prim .tupOf [.var 9])] []]],
  .ret (.var 0)]
def row_exchanged (i : Nat) : DRow := ⟨i, "exchanged", 1, ["system", "i", "path", "place", "point", "others", "j", "other", "at", "result"], [], b_exchanged⟩
def f_exchanged : FnS := defR (lk []) 1 10 b_exchanged
def b_exchange : List Sm :=
  [.exp (.call 42 [.var 0, .var 1, .var 2]),
  .ite (.call 44 [.var 2]) [.raise 10] [],
  .ret (.call 56 [.var 2])]
def row_exchange (i : Nat) : DRow := ⟨i, "exchange", 3, ["grid", "lines", "system"], [(42, "check_system"), (44, "keeps_apart"), (56, "exchanged")], b_exchange⟩
def f_exchange : FnS := defR (lk [(42, f_check_system), (44, f_keeps_apart), (56, f_exchanged)]) 3 3 b_exchange
def b__law_ask_k05 : List Sm :=
  [.ask 3 [.ret (.call 57 [.var 0, .var 1, .var 2])]]
def row__law_ask_k05 (i : Nat) : DRow := ⟨i, "_law_ask", 3, ["own", "lines", "system", "e"], [(57, "exchange")], b__law_ask_k05⟩
def f__law_ask_k05 : FnS := defR (lk [(57, f_exchange)]) 3 4 b__law_ask_k05
def b__law_swapped : List Sm :=
  [.forS (.many [1, 2]) (.enum (.var 0)) [.asg (.one 3) (.lc (.var 5) (.one 5) (.rng [.prim .len [.var 0]]) [.prim .ne [.var 5, .var 1]]),
    .asg (.one 4) (.lc (.var 7) (.one 7) (.seq (.var 2)) [.prim .ne [.lc (.var 5) (.one 5) (.seq (.var 3)) [.prim .inn [.var 7, .prim .idx [.var 0, .var 5]]], .lst []]]),
    .ite (.prim .ne [.var 4, .lst []]) [.asg (.one 5) (.prim .maxl [.lc (.var 5) (.one 5) (.seq (.var 3)) [.prim .inn [.prim .idx [.var 4, .lit (.int 0)], .prim .idx [.var 0, .var 5]]]]),
      .par 8 9 false false (.tix (.var 2) (.prim .idx [.var 4, .lit (.int 0)])) (.tix (.prim .idx [.var 0, .var 5]) (.prim .idx [.var 4, .lit (.int 0)])),
      .new 6 (.prim .listOf [.var 0]),
      .seti 6 (.var 1) (.prim .add [.prim (.slc false true) [.var 2, .var 8], .prim (.slc true false) [.prim .idx [.var 0, .var 5], .var 9]]),
      .seti 6 (.var 5) (.prim .add [.prim (.slc false true) [.prim .idx [.var 0, .var 5], .var 9], .prim (.slc true false) [.var 2, .var 8]]),
      .ret (.tup [.prim .tupOf [.var 6], .var 1, .var 5])] []],
  .ret (.lit .none)]
def row__law_swapped (i : Nat) : DRow := ⟨i, "_law_swapped", 1, ["system", "i", "road", "rest", "met", "j", "roads", "point", "cut", "other"], [], b__law_swapped⟩
def f__law_swapped : FnS := defR (lk []) 1 10 b__law_swapped
def b_law_k05 : List Sm :=
  [.new 1 (.lst []),
  .asg (.one 2) (.call 25 [.var 0, .var 1, .lit (.int 5)]),
  .asg (.one 3) (.call 36 [.var 0, .var 1, .var 2, .prim .eq [.call 7 [.var 0, .var 1, .lit (.int 2)], .lit (.int 0)]]),
  .ite (.prim .gt [.call 7 [.var 0, .var 1, .lit (.int 3)], .lit (.int 0)]) [.asg (.one 2) (.prim .tupOf [.lc (.prim .tupOf [.lc (.prim .add [.lit (.int 1), .call 7 [.var 0, .var 1, .lit (.int 3)]]) (.one 22) (.rng [.lit (.int 4)]) []]) (.one 21) (.rng [.lit (.int 4)]) []]),
    .par 19 20 false false (.lst [.tup [.lit (.int 0), .lit (.int 0)], .tup [.lit (.int 1), .lit (.int 0)], .tup [.lit (.int 0), .lit (.int 1)]]) (.lst [.tup [.lit (.int 3), .lit (.int 3)], .tup [.lit (.int 2), .lit (.int 3)], .tup [.lit (.int 3), .lit (.int 2)]]),
    .asg (.one 3) (.tup [.prim .tupOf [.prim (.slc false true) [.var 19, .prim .add [.lit (.int 2), .call 7 [.var 0, .var 1, .lit (.int 2)]]]], .tup []]),
    .asg (.one 3) (.tup [.prim .idx [.var 3, .lit (.int 0)], .prim .tupOf [.prim (.slc false true) [.var 20, .prim .len [.prim .idx [.var 3, .lit (.int 0)]]]]])] [],
  .asg (.many [9, 10]) (.call 8 [.var 0, .var 1, .call 38 [.prim .len [.prim .idx [.var 3, .lit (.int 0)]]]]),
  .new 4 (.lst []),
  .forS (.many [11, 12]) (.zip [.prim .idx [.var 3, .lit (.int 0)], .var 9]) [.asg (.one 13) (.prim .idx [.prim .idx [.var 3, .lit (.int 1)], .var 12]),
    .asg (.one 14) (.ite (.andE (.prim .le [.prim .idx [.var 11, .lit (.int 0)], .prim .idx [.var 13, .lit (.int 0)]]) (.prim .le [.prim .idx [.var 11, .lit (.int 1)], .prim .idx [.var 13, .lit (.int 1)]])) (.call 26 [.var 2, .var 11, .var 13]) (.lst [])),
    .app 4 (.ite (.prim .ne [.var 14, .lst []]) (.call 8 [.var 0, .var 1, .var 14]) (.lit .none))],
  .ite (.prim .inn [.lit .none, .var 4]) [.ret (.prim .eq [.call 58 [.var 2, .var 3, .prim .tupOf [.var 4]], .tup [.lit (.str "raised"), .lit (.int 4)]])] [],
  .asg (.one 5) (.prim .tupOf [.var 4]),
  .asg (.one 6) (.call 59 [.var 5]),
  .asg (.one 7) (.call 58 [.var 2, .var 3, .var 5]),
  .ite (.prim .is [.var 6, .lit .none]) [.ret (.prim .eq [.var 7, .tup [.lit (.str "raised"), .lit (.int 9)]])] [],
  .ite (.orE (.prim .ne [.var 7, .prim .idx [.var 6, .lit (.int 0)]]) (.orE (.prim .isnot [.call 41 [.var 2, .var 3, .var 7], .lit (.bool true)]) (.prim .ne [.call 58 [.var 2, .var 3, .var 7], .var 5]))) [.ret (.lit (.bool false))] [],
  .new 8 (.prim .listOf [.var 9]),
  .seti 8 (.prim .idx [.var 6, .lit (.int 1)]) (.prim .idx [.var 9, .prim .idx [.var 6, .lit (.int 2)]]),
  .seti 8 (.prim .idx [.var 6, .lit (.int 2)]) (.prim .idx [.var 9, .prim .idx [.var 6, .lit (.int 1)]]),
  .asg (.many [15, 16]) (.tup [.lit (.int 1), .lit (.int 1)]),
  .forS (.many [17, 18]) (.zip [.var 5, .var 7]) [.par 15 16 false false (.prim .mul [.var 15, .call 27 [.var 2, .var 17]]) (.prim .mul [.var 16, .call 27 [.var 2, .var 18]])],
  .ret (.andE (.prim .eq [.call 47 [.var 2, .var 3, .var 7], .prim .tupOf [.var 8]]) (.prim .eq [.var 15, .var 16]))]
def row_law_k05 (i : Nat) : DRow := ⟨i, "law", 1, ["script", "town", "own", "lines", "roads", "system", "due", "got", "turned", "order", "sign", "start", "to", "end", "some", "heft", "other", "one", "two", "first", "last", "y", "x"], [(25, "_law_opened"), (36, "_law_some_lines"), (7, "_law_draw"), (8, "_law_pick"), (38, "_law_turns"), (26, "_law_ways_between"), (58, "_law_ask"), (59, "_law_swapped"), (41, "is_system"), (27, "_law_heft"), (47, "permutation")], b_law_k05⟩
def f_law_k05 : FnS := defR (lk [(25, f__law_opened), (36, f__law_some_lines), (7, f__law_draw), (8, f__law_pick), (38, f__law_turns), (26, f__law_ways_between 12), (58, f__law_ask_k05), (59, f__law_swapped), (41, f_is_system), (27, f__law_heft), (47, f_permutation)]) 1 23 b_law_k05
def b_in_line : List Sm :=
  [.ret (.prim .all [.lc (.andE (.prim .le [.prim .idx [.var 2, .lit (.int 0)], .prim .idx [.var 1, .lit (.int 0)]]) (.prim .ge [.prim .idx [.var 2, .lit (.int 1)], .prim .idx [.var 1, .lit (.int 1)]])) (.many [1, 2]) (.zip [.var 0, .prim (.slc true false) [.var 0, .lit (.int 1)]]) []])]
def row_in_line (i : Nat) : DRow := ⟨i, "in_line", 1, ["points", "one", "other"], [], b_in_line⟩
def f_in_line : FnS := defR (lk []) 1 3 b_in_line
def b_aligned : List Sm :=
  [.ret (.andE (.call 61 [.prim .idx [.var 0, .lit (.int 0)]]) (.call 61 [.prim .idx [.var 0, .lit (.int 1)]]))]
def row_aligned (i : Nat) : DRow := ⟨i, "aligned", 1, ["lines"], [(61, "in_line")], b_aligned⟩
def f_aligned : FnS := defR (lk [(61, f_in_line)]) 1 1 b_aligned
def b_are_aligned : List Sm :=
  [.exp (.call 31 [.var 0, .var 1]),
  .ret (.call 62 [.var 1])]
def row_are_aligned (i : Nat) : DRow := ⟨i, "are_aligned", 2, ["grid", "lines"], [(31, "check_lines"), (62, "aligned")], b_are_aligned⟩
def f_are_aligned : FnS := defR (lk [(31, f_check_lines), (62, f_aligned)]) 2 2 b_are_aligned
def b__law_is_lined_up : List Sm :=
  [.forS (.one 1) (.seq (.var 0)) [.forS (.many [2, 3]) (.zip [.var 1, .prim (.slc true false) [.var 1, .lit (.int 1)]]) [.ite (.orE (.prim .gt [.prim .idx [.var 3, .lit (.int 0)], .prim .idx [.var 2, .lit (.int 0)]]) (.prim .lt [.prim .idx [.var 3, .lit (.int 1)], .prim .idx [.var 2, .lit (.int 1)]])) [.ret (.lit (.bool false))] []]],
  .ret (.lit (.bool true))]
def row__law_is_lined_up (i : Nat) : DRow := ⟨i, "_law_is_lined_up", 1, ["lines", "points", "one", "other"], [], b__law_is_lined_up⟩
def f__law_is_lined_up : FnS := defR (lk []) 1 4 b__law_is_lined_up
def b__law_picked : List Sm :=
  [.asg (.one 3) (.lit (.int 0)),
  .forS (.many [4, 5]) (.seq (.call 38 [.prim .len [.var 1]])) [.asg (.one 6) (.var 5),
    .forS (.many [7, 8]) (.enum (.var 4)) [.asg (.one 6) (.prim .mul [.var 6, .prim .idx [.prim .idx [.var 0, .prim .idx [.var 1, .var 7]], .prim .idx [.var 2, .var 8]]])],
    .aug .addI 3 (.var 6)],
  .ret (.var 3)]
def row__law_picked (i : Nat) : DRow := ⟨i, "_law_picked", 3, ["rows", "some", "others", "result", "order", "sign", "product", "at", "to"], [(38, "_law_turns")], b__law_picked⟩
def f__law_picked : FnS := defR (lk [(38, f__law_turns)]) 3 9 b__law_picked
def b_law_k06 : List Sm :=
  [.new 1 (.lst []),
  .asg (.one 2) (.call 25 [.var 0, .var 1, .lit (.int 4)]),
  .asg (.one 3) (.call 36 [.var 0, .var 1, .var 2, .prim .gt [.call 7 [.var 0, .var 1, .lit (.int 4)], .lit (.int 0)]]),
  .asg (.one 4) (.prim .len [.prim .idx [.var 3, .lit (.int 0)]]),
  .asg (.one 5) (.call 64 [.var 3]),
  .ite (.notE (.call 50 [.call 63 [.var 2, .var 3], .var 5])) [.ret (.lit (.bool false))] [],
  .ite (.notE (.var 5)) [.ret (.lit (.bool true))] [],
  .asg (.one 6) (.call 33 [.var 2, .var 3]),
  .forS (.many [10, 11]) (.seq (.call 38 [.var 4])) [.asg (.one 12) (.lc (.prim .idx [.prim .idx [.var 6, .var 14], .var 15]) (.many [14, 15]) (.enum (.var 10)) []),
    .ite (.andE (.prim .ne [.prim .listOf [.var 10], .prim .rngL [.var 4]]) (.prim .notin [.lit (.int 0), .var 12])) [.ite (.prim .ne [.call 37 [.var 2, .var 3, .lc (.prim .idx [.prim .idx [.var 3, .lit (.int 1)], .var 15]) (.one 15) (.seq (.var 10)) []], .lst []]) [.ret (.lit (.bool false))] []] []],
  .ite (.prim .ne [.call 35 [.var 2, .var 3], .prim .sum [.lc (.var 16) (.many [9, 16, 17]) (.seq (.call 37 [.var 2, .var 3, .prim .idx [.var 3, .lit (.int 1)]])) []]]) [.ret (.lit (.bool false))] [],
  .asg (.one 7) (.lst [.lst []]),
  .forS (.one 8) (.rng [.var 4]) [.asg (.one 7) (.prim .add [.var 7, .lc (.prim .add [.var 9, .lst [.var 8]]) (.one 9) (.seq (.var 7)) []])],
  .forS (.one 9) (.seq (.var 7)) [.forS (.one 13) (.seq (.var 7)) [.ite (.andE (.prim .eq [.prim .len [.var 9], .prim .len [.var 13]]) (.prim .lt [.call 65 [.var 6, .var 9, .var 13], .lit (.int 0)])) [.ret (.lit (.bool false))] []]],
  .ret (.lit (.bool true))]
def row_law_k06 (i : Nat) : DRow := ⟨i, "law", 1, ["script", "town", "own", "lines", "count", "fine", "rows", "lists", "one", "some", "order", "sign", "reach", "others", "at", "to", "value", "used"], [(25, "_law_opened"), (36, "_law_some_lines"), (7, "_law_draw"), (64, "_law_is_lined_up"), (50, "_law_same_truth"), (63, "are_aligned"), (33, "matrix"), (38, "_law_turns"), (37, "_law_together"), (35, "determinant"), (65, "_law_picked")], b_law_k06⟩
def f_law_k06 : FnS := defR (lk [(25, f__law_opened), (36, f__law_some_lines), (7, f__law_draw), (64, f__law_is_lined_up), (50, f__law_same_truth), (63, f_are_aligned), (33, f_matrix), (38, f__law_turns), (37, f__law_together), (35, f_determinant), (65, f__law_picked)]) 1 18 b_law_k06
def b_is_straight : List Sm :=
  [.ret (.prim .eq [.prim .listOf [.call 46 [.var 0, .var 1]], .prim .rngL [.prim .len [.var 1]]])]
def row_is_straight (i : Nat) : DRow := ⟨i, "is_straight", 2, ["lines", "system"], [(46, "order_of")], b_is_straight⟩
def f_is_straight : FnS := defR (lk [(46, f_order_of)]) 2 2 b_is_straight
def b_upper_path : List Sm :=
  [.ret (.prim .tupOf [.lc (.ite (.prim .ge [.prim .idx [.var 2, .lit (.int 1)], .prim .idx [.var 3, .lit (.int 1)]]) (.var 2) (.var 3)) (.many [2, 3]) (.zip [.var 0, .var 1]) []])]
def row_upper_path (i : Nat) : DRow := ⟨i, "upper_path", 2, ["one", "other", "first", "second"], [], b_upper_path⟩
def f_upper_path : FnS := defR (lk []) 2 4 b_upper_path
def b_lower_path : List Sm :=
  [.ret (.prim .tupOf [.lc (.ite (.prim .ge [.prim .idx [.var 2, .lit (.int 1)], .prim .idx [.var 3, .lit (.int 1)]]) (.var 3) (.var 2)) (.many [2, 3]) (.zip [.var 0, .var 1]) []])]
def row_lower_path (i : Nat) : DRow := ⟨i, "lower_path", 2, ["one", "other", "first", "second"], [], b_lower_path⟩
def f_lower_path : FnS := defR (lk []) 2 4 b_lower_path
def b_check_straight : List Sm :=
  [.exp (.call 42 [.var 0, .var 1, .var 2]),
  .ite (.notE (.call 67 [.var 1, .var 2])) [.raise 5] []]
def row_check_straight (i : Nat) : DRow := ⟨i, "check_straight", 3, ["grid", "lines", "system"], [(42, "check_system"), (67, "is_straight")], b_check_straight⟩
def f_check_straight : FnS := defR (lk [(42, f_check_system), (67, f_is_straight)]) 3 3 b_check_straight
def b_upper_and_lower : List Sm :=
  [.exp (.call 70 [.var 0, .var 1, .var 2]),
  .exp (.call 70 [.var 0, .var 1, .var 3]),
  .asg (.one 4) (.prim .tupOf [.lc (.call 68 [.var 5, .var 6]) (.many [5, 6]) (.zip [.var 2, .var 3]) []]),
  .ret (.tup [.var 4, .prim .tupOf [.lc (.call 69 [.var 5, .var 6]) (.many [5, 6]) (.zip [.var 2, .var 3]) []]])]
def row_upper_and_lower (i : Nat) : DRow := ⟨i, "upper_and_lower", 4, ["grid", "lines", "one", "other", "upper", "first", "second"], [(70, "check_straight"), (68, "upper_path"), (69, "lower_path")], b_upper_and_lower⟩
def f_upper_and_lower : FnS := defR (lk [(70, f_check_straight), (68, f_upper_path), (69, f_lower_path)]) 4 7 b_upper_and_lower
def b_law_k07 : List Sm :=
  [.new 1 (.lst []),
  .asg (.one 2) (.call 25 [.var 0, .var 1, .lit (.int 5)]),
  .asg (.one 3) (.call 36 [.var 0, .var 1, .var 2, .lit (.bool true)]),
  .asg (.one 4) (.prim .rngL [.prim .len [.prim .idx [.var 3, .lit (.int 0)]]]),
  .asg (.one 5) (.call 53 [.var 0, .var 1, .var 2, .var 3, .var 4]),
  .asg (.one 6) (.call 53 [.var 0, .var 1, .var 2, .var 3, .var 4]),
  .ite (.prim .inn [.lit .none, .var 5]) [.ret (.lit (.bool true))] [],
  .asg (.one 7) (.lc (.var 17) (.many [17, 18, 19]) (.seq (.call 37 [.var 2, .var 3, .prim .idx [.var 3, .lit (.int 1)]])) []),
  .ite (.andE (.prim .ne [.var 7, .lst []]) (.prim .gt [.call 7 [.var 0, .var 1, .lit (.int 3)], .lit (.int 0)])) [.par 5 6 false false (.call 8 [.var 0, .var 1, .var 7]) (.call 8 [.var 0, .var 1, .var 7])] [],
  .par 5 6 false false (.prim .tupOf [.var 5]) (.prim .tupOf [.var 6]),
  .par 11 12 true true (.lst []) (.lst []),
  .forS (.many [13, 14]) (.zip [.var 5, .var 6]) [.app 11 (.prim .tupOf [.lc (.ite (.prim .gt [.prim .idx [.var 20, .lit (.int 1)], .prim .idx [.var 21, .lit (.int 1)]]) (.tup [.prim .idx [.var 20, .lit (.int 0)], .prim .idx [.var 20, .lit (.int 1)]]) (.tup [.prim .idx [.var 21, .lit (.int 0)], .prim .idx [.var 21, .lit (.int 1)]])) (.many [20, 21]) (.zip [.var 13, .var 14]) []]),
    .app 12 (.prim .tupOf [.lc (.ite (.prim .gt [.prim .idx [.var 20, .lit (.int 1)], .prim .idx [.var 21, .lit (.int 1)]]) (.tup [.prim .idx [.var 21, .lit (.int 0)], .prim .idx [.var 21, .lit (.int 1)]]) (.tup [.prim .idx [.var 20, .lit (.int 0)], .prim .idx [.var 20, .lit (.int 1)]])) (.many [20, 21]) (.zip [.var 13, .var 14]) []])],
  .asg (.one 8) (.tup [.prim .tupOf [.var 11], .prim .tupOf [.var 12]]),
  .ite (.orE (.prim .ne [.call 71 [.var 2, .var 3, .var 5, .var 6], .var 8]) (.prim .ne [.call 71 [.var 2, .var 3, .var 6, .var 5], .var 8])) [.ret (.lit (.bool false))] [],
  .ite (.prim .ne [.lc (.call 41 [.var 2, .var 3, .var 10]) (.one 10) (.seq (.var 8)) [], .lst [.lit (.bool true), .lit (.bool true)]]) [.ret (.lit (.bool false))] [],
  .ite (.andE (.call 45 [.var 2, .var 3, .var 5]) (.call 45 [.var 2, .var 3, .var 6])) [.ite (.prim .ne [.lc (.call 45 [.var 2, .var 3, .var 10]) (.one 10) (.seq (.var 8)) [], .lst [.lit (.bool true), .lit (.bool true)]]) [.ret (.lit (.bool false))] []] [],
  .new 9 (.lst []),
  .forS (.one 10) (.seq (.tup [.var 5, .var 6, .prim .idx [.var 8, .lit (.int 0)], .prim .idx [.var 8, .lit (.int 1)]])) [.asg (.one 15) (.lit (.int 1)),
    .forS (.one 16) (.seq (.var 10)) [.asg (.one 15) (.prim .mul [.var 15, .call 27 [.var 2, .var 16]])],
    .app 9 (.var 15)],
  .ret (.andE (.prim .eq [.prim .mul [.prim .idx [.var 9, .lit (.int 0)], .prim .idx [.var 9, .lit (.int 1)]], .prim .mul [.prim .idx [.var 9, .lit (.int 2)], .prim .idx [.var 9, .lit (.int 3)]]]) (.prim .eq [.call 71 [.var 2, .var 3, .var 5, .var 5], .tup [.var 5, .var 5]]))]
def row_law_k07 (i : Nat) : DRow := ⟨i, "law", 1, ["script", "town", "own", "lines", "straight", "one", "other", "found", "due", "hefts", "system", "high", "low", "first", "second", "heft", "road", "some", "value", "used", "p", "q"], [(25, "_law_opened"), (36, "_law_some_lines"), (53, "_law_roads_of"), (37, "_law_together"), (7, "_law_draw"), (8, "_law_pick"), (71, "upper_and_lower"), (41, "is_system"), (45, "is_apart"), (27, "_law_heft")], b_law_k07⟩
def f_law_k07 : FnS := defR (lk [(25, f__law_opened), (36, f__law_some_lines), (53, f__law_roads_of), (37, f__law_together), (7, f__law_draw), (8, f__law_pick), (71, f_upper_and_lower), (41, f_is_system), (45, f_is_apart), (27, f__law_heft)]) 1 22 b_law_k07
def b_check_aligned : List Sm :=
  [.exp (.call 31 [.var 0, .var 1]),
  .ite (.notE (.call 62 [.var 1])) [.raise 9] []]
def row_check_aligned (i : Nat) : DRow := ⟨i, "check_aligned", 2, ["grid", "lines"], [(31, "check_lines"), (62, "aligned")], b_check_aligned⟩
def f_check_aligned : FnS := defR (lk [(31, f_check_lines), (62, f_aligned)]) 2 2 b_check_aligned
def b_farthest : List Sm :=
  [.newD 4 true,
  .forS (.one 5) (.seq (.var 2)) [.asg (.one 6) (.call 43 [.dvals 4]),
    .asg (.one 7) (.call 17 [.var 0, .prim .idx [.prim .idx [.var 1, .lit (.int 0)], .var 5], .prim .idx [.prim .idx [.var 1, .lit (.int 1)], .var 5], .var 6]),
    .ite (.prim .eq [.var 7, .lst []]) [.raise 11] [],
    .asg (.one 8) (.prim .idx [.var 7, .lit (.int 0)]),
    .forS (.one 9) (.seq (.prim (.slc true false) [.var 7, .lit (.int 1)])) [.asg (.one 8) (.callV 3 [68, 69] [.var 8, .var 9])],
    .dput 4 (.var 5) (.var 8)],
  .ret (.prim .tupOf [.lc (.didx 4 (.var 5)) (.one 5) (.seq (.dkeys 4)) []])]
def row_farthest (i : Nat) : DRow := ⟨i, "farthest", 4, ["grid", "lines", "numbers", "better", "chosen", "number", "closed", "some", "best", "path"], [(43, "points_of"), (17, "path_list"), (68, "upper_path"), (69, "lower_path")], b_farthest⟩
def f_farthest : FnS := defR (lk [(43, f_points_of), (17, f_path_list), (68, f_upper_path), (69, f_lower_path)]) 4 10 b_farthest
def b_topmost : List Sm :=
  [.exp (.call 73 [.var 0, .var 1]),
  .ret (.call 74 [.var 0, .var 1, .prim .rev [.prim .rngL [.prim .len [.prim .idx [.var 1, .lit (.int 0)]]]], .fnv 68])]
def row_topmost (i : Nat) : DRow := ⟨i, "topmost", 2, ["grid", "lines"], [(73, "check_aligned"), (74, "farthest"), (68, "upper_path")], b_topmost⟩
def f_topmost : FnS := defR (lk [(73, f_check_aligned), (74, f_farthest), (68, f_upper_path)]) 2 2 b_topmost
def b_bottommost : List Sm :=
  [.exp (.call 73 [.var 0, .var 1]),
  .ret (.call 74 [.var 0, .var 1, .prim .rngL [.prim .len [.prim .idx [.var 1, .lit (.int 0)]]], .fnv 69])]
def row_bottommost (i : Nat) : DRow := ⟨i, "bottommost", 2, ["grid", "lines"], [(73, "check_aligned"), (74, "farthest"), (69, "lower_path")], b_bottommost⟩
def f_bottommost : FnS := defR (lk [(73, f_check_aligned), (74, f_farthest), (69, f_lower_path)]) 2 2 b_bottommost
def b__law_ask_k08 : List Sm :=
  [.ask 3 [.ret (.sel [75, 76] (.var 0) [.var 1, .var 2])]]
def row__law_ask_k08 (i : Nat) : DRow := ⟨i, "_law_ask", 3, ["what", "own", "lines", "e"], [(75, "topmost"), (76, "bottommost")], b__law_ask_k08⟩
def f__law_ask_k08 : FnS := defR (lk [(75, f_topmost), (76, f_bottommost)]) 3 4 b__law_ask_k08
def b_law_k08 : List Sm :=
  [.new 1 (.lst []),
  .asg (.one 2) (.call 25 [.var 0, .var 1, .lit (.int 4)]),
  .asg (.one 3) (.call 36 [.var 0, .var 1, .var 2, .prim .gt [.call 7 [.var 0, .var 1, .lit (.int 5)], .lit (.int 0)]]),
  .asg (.one 4) (.lc (.call 77 [.var 7, .var 2, .var 3]) (.one 7) (.seq (.tup [.lit (.int 0), .lit (.int 1)])) []),
  .ite (.notE (.call 64 [.var 3])) [.ret (.prim .eq [.var 4, .prim .mul [.lst [.tup [.lit (.str "raised"), .lit (.int 8)]], .lit (.int 2)]])] [],
  .asg (.one 5) (.lc (.var 11) (.many [11, 12, 13]) (.seq (.call 37 [.var 2, .var 3, .prim .idx [.var 3, .lit (.int 1)]])) []),
  .ite (.prim .eq [.var 5, .lst []]) [.ret (.prim .eq [.var 4, .prim .mul [.lst [.tup [.lit (.str "raised"), .lit (.int 10)]], .lit (.int 2)]])] [],
  .ite (.orE (.prim .notin [.prim .idx [.var 4, .lit (.int 0)], .var 5]) (.prim .notin [.prim .idx [.var 4, .lit (.int 1)], .var 5])) [.ret (.lit (.bool false))] [],
  .forS (.one 6) (.seq (.var 5)) [.forS (.many [8, 9, 10]) (.zip [.prim .idx [.var 4, .lit (.int 0)], .var 6, .prim .idx [.var 4, .lit (.int 1)]]) [.forS (.many [14, 15, 16]) (.zip [.var 8, .var 9, .var 10]) [.ite (.notE (.chain .le .le (.prim .idx [.var 16, .lit (.int 1)]) (.prim .idx [.var 15, .lit (.int 1)]) (.prim .idx [.var 14, .lit (.int 1)]))) [.ret (.lit (.bool false))] []]]],
  .ret (.lit (.bool true))]
def row_law_k08 (i : Nat) : DRow := ⟨i, "law", 1, ["script", "town", "own", "lines", "got", "found", "system", "what", "high", "road", "low", "some", "value", "used", "top", "point", "bottom"], [(25, "_law_opened"), (36, "_law_some_lines"), (7, "_law_draw"), (77, "_law_ask"), (64, "_law_is_lined_up"), (37, "_law_together")], b_law_k08⟩
def f_law_k08 : FnS := defR (lk [(25, f__law_opened), (36, f__law_some_lines), (7, f__law_draw), (77, f__law_ask_k08), (64, f__law_is_lined_up), (37, f__law_together)]) 1 17 b_law_k08
def b_links_of : List Sm :=
  [.newD1 2 (.lit (.str "source")) (.lc (.tup [.var 7, .lit (.str "in")]) (.one 7) (.seq (.prim .idx [.var 1, .lit (.int 0)])) []),
  .forS (.many [3, 4]) (.enum (.var 0)) [.forS (.many [5, 6]) (.enum (.var 4)) [.ite (.prim .gt [.var 6, .lit (.int 0)]) [.dput 2 (.tup [.tup [.var 5, .var 3], .lit (.str "in")]) (.lst [.tup [.tup [.var 5, .var 3], .lit (.str "out")]]),
        .asg (.one 8) (.lc (.tup [.var 9, .lit (.str "in")]) (.one 9) (.seq (.call 14 [.tup [.var 5, .var 3]])) [.prim .gt [.call 12 [.var 0, .var 9], .lit (.int 0)]]),
        .dput 2 (.tup [.tup [.var 5, .var 3], .lit (.str "out")]) (.prim .add [.var 8, .ite (.prim .inn [.tup [.var 5, .var 3], .prim .idx [.var 1, .lit (.int 1)]]) (.lst [.lit (.str "sink")]) (.lst [])])] []]],
  .ret (.var 2)]
def row_links_of (i : Nat) : DRow := ⟨i, "links_of", 2, ["grid", "lines", "follow", "y", "row", "x", "entry", "start", "some", "point"], [(14, "after"), (12, "weight_at")], b_links_of⟩
def f_links_of : FnS := defR (lk [(14, f_after), (12, f_weight_at)]) 2 10 b_links_of
def b_reached : List Sm :=
  [.stub,
  .whl 100000 (.andE (.prim .ne [.var 3, .lst []]) (.prim .notin [.lit (.str "sink"), .var 2])) [.asg (.one 4) (.pop 3),
    .stub,
    .ext 5 (.lc (.var 6) (.one 6) (.seq (.var 0)) [.prim .inn [.tup [.var 6, .var 4], .var 1]]),
    .forS (.one 6) (.seq (.var 5)) [.ite (.prim .notin [.var 6, .var 2]) [.dput 2 (.var 6) (.var 4),
        .app 3 (.var 6)] []]],
  .ret (.var 2)]
def row_reached (i : Nat) : DRow := ⟨i, "reached", 2, ["follow", "used", "before", "line", "node", "some", "one"], [], b_reached⟩
def f_reached : FnS := defR (lk []) 2 7 b_reached
def b_flow_of : List Sm :=
  [.stub,
  .asg (.one 2) (.call 80 [.var 3, .var 4]),
  .whl 100000 (.prim .inn [.lit (.str "sink"), .var 2]) [.asg (.one 5) (.lit (.str "sink")),
    .whl 100000 (.prim .isnot [.prim .idx [.var 2, .var 5], .lit .none]) [.ite (.prim .inn [.tup [.var 5, .prim .idx [.var 2, .var 5]], .var 4]) [.stub] [.dput 4 (.tup [.prim .idx [.var 2, .var 5], .var 5]) (.lit (.bool true))],
      .asg (.one 5) (.prim .idx [.var 2, .var 5])],
    .asg (.one 2) (.call 80 [.var 3, .var 4])],
  .ret (.tup [.var 3, .var 4, .var 2])]
def row_flow_of (i : Nat) : DRow := ⟨i, "flow_of", 2, ["grid", "lines", "before", "follow", "used", "node"], [(79, "links_of"), (80, "reached")], b_flow_of⟩
def f_flow_of : FnS := defR (lk [(79, f_links_of), (80, f_reached)]) 2 6 b_flow_of
def b_most_paths : List Sm :=
  [.exp (.call 31 [.var 0, .var 1]),
  .asg (.many [4, 5, 6]) (.call 81 [.var 0, .var 1]),
  .new 2 (.lst []),
  .forS (.one 3) (.seq (.prim .idx [.var 4, .lit (.str "source")])) [.ite (.prim .inn [.tup [.lit (.str "source"), .var 3], .var 5]) [.new 7 (.lst [.prim .idx [.var 3, .lit (.int 0)]]),
      .whl 100000 (.prim .notin [.tup [.tup [.prim .idx [.var 7, .prim .neg [.lit (.int 1)]], .lit (.str "out")], .lit (.str "sink")], .var 5]) [.ext 7 (.lc (.var 8) (.one 8) (.seq (.call 14 [.prim .idx [.var 7, .prim .neg [.lit (.int 1)]]])) [.prim .inn [.tup [.tup [.prim .idx [.var 7, .prim .neg [.lit (.int 1)]], .lit (.str "out")], .tup [.var 8, .lit (.str "in")]], .var 5]])],
      .app 2 (.prim .tupOf [.var 7])] []],
  .ret (.prim .sorted [.var 2])]
def row_most_paths (i : Nat) : DRow := ⟨i, "most_paths", 2, ["grid", "lines", "result", "node", "follow", "used", "before", "path", "one"], [(31, "check_lines"), (81, "flow_of"), (14, "after")], b_most_paths⟩
def f_most_paths : FnS := defR (lk [(31, f_check_lines), (81, f_flow_of), (14, f_after)]) 2 9 b_most_paths
def b_barrier : List Sm :=
  [.exp (.call 31 [.var 0, .var 1]),
  .asg (.many [3, 4, 5]) (.call 81 [.var 0, .var 1]),
  .asg (.one 2) (.lc (.prim .idx [.var 6, .lit (.int 0)]) (.one 6) (.seq (.var 3)) [.andE (.prim .eq [.prim .idx [.var 6, .lit (.int 1)], .lit (.str "in")]) (.andE (.prim .inn [.var 6, .var 5]) (.prim .notin [.tup [.prim .idx [.var 6, .lit (.int 0)], .lit (.str "out")], .var 5]))]),
  .ret (.prim .tupOf [.prim .sorted [.var 2]])]
def row_barrier (i : Nat) : DRow := ⟨i, "barrier", 2, ["grid", "lines", "found", "follow", "used", "before", "node"], [(31, "check_lines"), (81, "flow_of")], b_barrier⟩
def f_barrier : FnS := defR (lk [(31, f_check_lines), (81, f_flow_of)]) 2 7 b_barrier
def b_is_barrier : List Sm :=
  [.exp (.call 31 [.var 0, .var 1]),
  .ite (.orE (.notE (.prim (.isi .tuple) [.var 2])) (.notE (.prim .all [.lc (.call 13 [.var 0, .var 5]) (.one 5) (.seq (.var 2)) []]))) [.ret (.lit (.bool false))] [],
  .ite (.notE (.prim .all [.lc (.prim .lt [.var 8, .var 9]) (.many [8, 9]) (.zip [.var 2, .prim (.slc true false) [.var 2, .lit (.int 1)]]) []])) [.ret (.lit (.bool false))] [],
  .new 3 (.lc (.var 6) (.one 6) (.seq (.prim .idx [.var 1, .lit (.int 0)])) [.prim .notin [.var 6, .var 2]]),
  .new 4 (.prim .listOf [.var 3]),
  .whl 100000 (.prim .ne [.var 3, .lst []]) [.forS (.one 5) (.seq (.call 14 [.pop 3])) [.ite (.andE (.prim .gt [.call 12 [.var 0, .var 5], .lit (.int 0)]) (.andE (.prim .notin [.var 5, .var 2]) (.prim .notin [.var 5, .var 4]))) [.app 4 (.var 5),
        .app 3 (.var 5)] []]],
  .ret (.notE (.prim .any [.lc (.prim .inn [.var 7, .var 4]) (.one 7) (.seq (.prim .idx [.var 1, .lit (.int 1)])) []]))]
def row_is_barrier (i : Nat) : DRow := ⟨i, "is_barrier", 3, ["grid", "lines", "value", "line", "seen", "point", "start", "end", "one", "other"], [(31, "check_lines"), (13, "is_open"), (14, "after"), (12, "weight_at")], b_is_barrier⟩
def f_is_barrier : FnS := defR (lk [(31, f_check_lines), (13, f_is_open), (14, f_after), (12, f_weight_at)]) 3 10 b_is_barrier
def b__law_blocks : List Sm :=
  [.forS (.one 3) (.seq (.prim .idx [.var 1, .lit (.int 0)])) [.asg (.many [4, 5]) (.tup [.lst [], .ite (.prim .inn [.var 3, .var 2]) (.lst []) (.lst [.var 3])]),
    .whl 100000 (.prim .ne [.var 5, .lst []]) [.asg (.many [6, 7]) (.pop 5),
      .app 4 (.tup [.var 6, .var 7]),
      .forS (.many [8, 9]) (.seq (.lst [.tup [.prim .add [.var 6, .lit (.int 1)], .var 7], .tup [.var 6, .prim .add [.var 7, .lit (.int 1)]]])) [.ite (.andE (.prim .lt [.var 8, .prim .len [.prim .idx [.var 0, .lit (.int 0)]]]) (.andE (.prim .lt [.var 9, .prim .len [.var 0]]) (.andE (.prim .gt [.prim .idx [.prim .idx [.var 0, .var 9], .var 8], .lit (.int 0)]) (.andE (.prim .notin [.tup [.var 8, .var 9], .var 2]) (.prim .notin [.tup [.var 8, .var 9], .var 4]))))) [.app 5 (.tup [.var 8, .var 9])] []]],
    .ite (.prim .ne [.lc (.var 10) (.one 10) (.seq (.prim .idx [.var 1, .lit (.int 1)])) [.prim .inn [.var 10, .var 4]], .lst []]) [.ret (.lit (.bool false))] []],
  .ret (.lit (.bool true))]
def row__law_blocks (i : Nat) : DRow := ⟨i, "_law_blocks", 3, ["own", "lines", "some", "start", "seen", "line", "x", "y", "p", "q", "end"], [], b__law_blocks⟩
def f__law_blocks : FnS := defR (lk []) 3 11 b__law_blocks
def b_law_k09 : List Sm :=
  [.new 1 (.lst []),
  .asg (.one 2) (.call 25 [.var 0, .var 1, .lit (.int 5)]),
  .asg (.one 3) (.call 36 [.var 0, .var 1, .var 2, .prim .eq [.call 7 [.var 0, .var 1, .lit (.int 2)], .lit (.int 0)]]),
  .par 10 11 false false (.call 82 [.var 2, .var 3]) (.call 83 [.var 2, .var 3]),
  .stub,
  .new 4 (.lst []),
  .forS (.one 5) (.seq (.var 10)) [.ite (.orE (.prim .notin [.prim .idx [.var 5, .lit (.int 0)], .prim .idx [.var 3, .lit (.int 0)]]) (.orE (.prim .notin [.prim .idx [.var 5, .prim .neg [.lit (.int 1)]], .prim .idx [.var 3, .lit (.int 1)]]) (.prim .notin [.var 5, .call 26 [.var 2, .prim .idx [.var 5, .lit (.int 0)], .prim .idx [.var 5, .prim .neg [.lit (.int 1)]]]]))) [.ret (.lit (.bool false))] [],
    .ext 4 (.prim .listOf [.var 5])],
  .ite (.orE (.prim .ne [.prim .nset [.var 4], .prim .len [.var 4]]) (.orE (.notE (.call 85 [.var 2, .var 3, .var 11])) (.prim .isnot [.call 84 [.var 2, .var 3, .var 11], .lit (.bool true)]))) [.ret (.lit (.bool false))] [],
  .asg (.one 6) (.call 10 [.var 2]),
  .forS (.one 7) (.rng [.lit (.int 5)]) [.asg (.one 12) (.lc (.call 8 [.var 0, .var 1, .var 6]) (.one 14) (.rng [.call 7 [.var 0, .var 1, .lit (.int 4)]]) []),
    .stub,
    .ite (.notE (.call 50 [.call 84 [.var 2, .var 3, .var 13], .call 85 [.var 2, .var 3, .var 13]])) [.ret (.lit (.bool false))] []],
  .asg (.one 8) (.prim .tupOf [.var 6]),
  .asg (.one 9) (.lst [.lit .none, .var 6, .prim .add [.var 8, .tup [.prim .idx [.var 6, .prim .neg [.lit (.int 1)]]]], .prim .add [.prim .rev [.var 8], .var 8], .prim .add [.var 8, .tup [.tup [.lit (.int 9), .lit (.int 9)]]], .prim .add [.var 8, .tup [.lit .none]], .prim .add [.var 8, .tup [.tup [.lit (.int 6), .lit (.bool true)]]]]),
  .ret (.andE (.prim .is [.call 84 [.var 2, .var 3, .var 8], .lit (.bool true)]) (.prim .eq [.lc (.call 84 [.var 2, .var 3, .var 15]) (.one 15) (.seq (.var 9)) [], .prim .mul [.lst [.lit (.bool false)], .prim .len [.var 9]]]))]
def row_law_k09 (i : Nat) : DRow := ⟨i, "law", 1, ["script", "town", "own", "lines", "points", "road", "spots", "again", "full", "odds", "roads", "wall", "some", "asked", "one", "odd"], [(25, "_law_opened"), (36, "_law_some_lines"), (7, "_law_draw"), (82, "most_paths"), (83, "barrier"), (26, "_law_ways_between"), (84, "is_barrier"), (85, "_law_blocks"), (10, "_law_spots"), (8, "_law_pick"), (50, "_law_same_truth")], b_law_k09⟩
def f_law_k09 : FnS := defR (lk [(25, f__law_opened), (36, f__law_some_lines), (7, f__law_draw), (82, f_most_paths), (83, f_barrier), (26, f__law_ways_between 12), (84, f_is_barrier), (85, f__law_blocks), (10, f__law_spots), (8, f__law_pick), (50, f__law_same_truth)]) 1 16 b_law_k09
def b_check_numbers : List Sm :=
  [.ite (.notE (.prim .all [.lc (.call 0 [.var 3, .lit (.int 1), .lit (.int 3)]) (.one 3) (.seq (.tup [.var 0, .var 1, .var 2])) []])) [.raise 6] []]
def row_check_numbers (i : Nat) : DRow := ⟨i, "check_numbers", 3, ["a", "b", "c", "one"], [(0, "is_integer")], b_check_numbers⟩
def f_check_numbers : FnS := defR (lk [(0, f_is_integer)]) 3 4 b_check_numbers
def b_count_piles : List Sm :=
  [.exp (.call 87 [.var 0, .var 1, .var 2]),
  .asg (.many [4, 5]) (.tup [.lit (.int 1), .lit (.int 1)]),
  .forS (.one 3) (.rng [.var 0]) [.forS (.one 6) (.rng [.var 1]) [.forS (.one 7) (.rng [.var 2]) [.aug .mulI 4 (.prim .add [.prim .add [.prim .add [.var 3, .var 6], .var 7], .lit (.int 2)]),
        .aug .mulI 5 (.prim .add [.prim .add [.prim .add [.var 3, .var 6], .var 7], .lit (.int 1)])]]],
  .ret (.prim .fdiv [.var 4, .var 5])]
def row_count_piles (i : Nat) : DRow := ⟨i, "count_piles", 3, ["a", "b", "c", "i", "top", "below", "j", "k"], [(87, "check_numbers")], b_count_piles⟩
def f_count_piles : FnS := defR (lk [(87, f_check_numbers)]) 3 8 b_count_piles
def b_valid_pile : List Sm :=
  [.ite (.orE (.notE (.prim (.isi .tuple) [.var 3])) (.prim .ne [.prim .len [.var 3], .var 0])) [.ret (.lit (.bool false))] [],
  .forS (.one 4) (.seq (.var 3)) [.ite (.orE (.notE (.prim (.isi .tuple) [.var 4])) (.orE (.prim .ne [.prim .len [.var 4], .var 1]) (.notE (.prim .all [.lc (.call 0 [.var 6, .lit (.int 0), .var 2]) (.one 6) (.seq (.var 4)) []])))) [.ret (.lit (.bool false))] [],
    .ite (.prim .any [.lc (.prim .lt [.var 6, .var 5]) (.many [6, 5]) (.zip [.var 4, .prim (.slc true false) [.var 4, .lit (.int 1)]]) []]) [.ret (.lit (.bool false))] []],
  .forS (.many [4, 5]) (.zip [.var 3, .prim (.slc true false) [.var 3, .lit (.int 1)]]) [.ite (.prim .any [.lc (.prim .lt [.var 7, .var 8]) (.many [7, 8]) (.zip [.var 4, .var 5]) []]) [.ret (.lit (.bool false))] []],
  .ret (.lit (.bool true))]
def row_valid_pile (i : Nat) : DRow := ⟨i, "valid_pile", 4, ["a", "b", "c", "value", "row", "other", "one", "first", "second"], [(0, "is_integer")], b_valid_pile⟩
def f_valid_pile : FnS := defR (lk [(0, f_is_integer)]) 4 9 b_valid_pile
def b_is_pile : List Sm :=
  [.exp (.call 87 [.var 0, .var 1, .var 2]),
  .ret (.call 89 [.var 0, .var 1, .var 2, .var 3])]
def row_is_pile (i : Nat) : DRow := ⟨i, "is_pile", 4, ["a", "b", "c", "value"], [(87, "check_numbers"), (89, "valid_pile")], b_is_pile⟩
def f_is_pile : FnS := defR (lk [(87, f_check_numbers), (89, f_valid_pile)]) 4 4 b_is_pile
def b_grid_for : List Sm :=
  [.ret (.prim .mul [.tup [.prim .mul [.tup [.lit (.int 1)], .prim .add [.var 0, .var 1]]], .prim .add [.var 0, .var 2]])]
def row_grid_for (i : Nat) : DRow := ⟨i, "grid_for", 3, ["a", "b", "c"], [], b_grid_for⟩
def f_grid_for : FnS := defR (lk []) 3 3 b_grid_for
def b_lines_for : List Sm :=
  [.asg (.one 3) (.prim .tupOf [.lc (.tup [.prim .sub [.prim .sub [.var 0, .lit (.int 1)], .var 4], .var 4]) (.one 4) (.rng [.var 0]) []]),
  .ret (.tup [.var 3, .prim .tupOf [.lc (.tup [.prim .add [.var 5, .var 1], .prim .add [.var 6, .var 2]]) (.many [5, 6]) (.seq (.var 3)) []]])]
def row_lines_for (i : Nat) : DRow := ⟨i, "lines_for", 3, ["a", "b", "c", "starts", "i", "x", "y"], [], b_lines_for⟩
def f_lines_for : FnS := defR (lk []) 3 7 b_lines_for
def b_path_for : List Sm :=
  [.asg (.many [4, 5]) (.var 0),
  .par 6 7 true false (.lst [.var 0]) (.prim .add [.var 5, .var 2]),
  .forS (.one 3) (.seq (.var 1)) [.whl 100000 (.prim .lt [.var 5, .prim .sub [.var 7, .var 3]]) [.aug .addI 5 (.lit (.int 1)),
      .app 6 (.tup [.var 4, .var 5])],
    .aug .addI 4 (.lit (.int 1)),
    .app 6 (.tup [.var 4, .var 5])],
  .whl 100000 (.prim .lt [.var 5, .var 7]) [.aug .addI 5 (.lit (.int 1)),
    .app 6 (.tup [.var 4, .var 5])],
  .ret (.prim .tupOf [.var 6])]
def row_path_for (i : Nat) : DRow := ⟨i, "path_for", 3, ["start", "row", "c", "entry", "x", "y", "path", "last"], [], b_path_for⟩
def f_path_for : FnS := defR (lk []) 3 8 b_path_for
def b_system_of : List Sm :=
  [.exp (.call 87 [.var 0, .var 1, .var 2]),
  .ite (.notE (.call 89 [.var 0, .var 1, .var 2, .var 3])) [.raise 7] [],
  .ret (.prim .tupOf [.lc (.call 93 [.var 4, .var 5, .var 2]) (.many [4, 5]) (.zip [.prim .idx [.call 92 [.var 0, .var 1, .var 2], .lit (.int 0)], .var 3]) []])]
def row_system_of (i : Nat) : DRow := ⟨i, "system_of", 4, ["a", "b", "c", "pile", "start", "row"], [(87, "check_numbers"), (89, "valid_pile"), (93, "path_for"), (92, "lines_for")], b_system_of⟩
def f_system_of : FnS := defR (lk [(87, f_check_numbers), (89, f_valid_pile), (93, f_path_for), (92, f_lines_for)]) 4 6 b_system_of
def b_row_for : List Sm :=
  [.asg (.one 2) (.prim .add [.prim .idx [.prim .idx [.var 0, .lit (.int 0)], .lit (.int 1)], .var 1]),
  .ret (.prim .tupOf [.lc (.prim .sub [.var 2, .prim .idx [.var 3, .lit (.int 1)]]) (.many [3, 4]) (.zip [.var 0, .prim (.slc true false) [.var 0, .lit (.int 1)]]) [.prim .gt [.prim .idx [.var 4, .lit (.int 0)], .prim .idx [.var 3, .lit (.int 0)]]]])]
def row_row_for (i : Nat) : DRow := ⟨i, "row_for", 2, ["path", "c", "last", "one", "other"], [], b_row_for⟩
def f_row_for : FnS := defR (lk []) 2 5 b_row_for
def b_pile_of : List Sm :=
  [.exp (.call 87 [.var 0, .var 1, .var 2]),
  .asg (.one 4) (.call 92 [.var 0, .var 1, .var 2]),
  .ite (.orE (.notE (.call 40 [.call 91 [.var 0, .var 1, .var 2], .var 4, .var 3])) (.notE (.call 67 [.var 4, .var 3]))) [.raise 5] [],
  .ite (.notE (.call 44 [.var 3])) [.raise 5] [],
  .ret (.prim .tupOf [.lc (.call 95 [.var 5, .var 2]) (.one 5) (.seq (.var 3)) []])]
def row_pile_of (i : Nat) : DRow := ⟨i, "pile_of", 4, ["a", "b", "c", "system", "lines", "path"], [(87, "check_numbers"), (92, "lines_for"), (67, "is_straight"), (40, "valid_system"), (91, "grid_for"), (44, "keeps_apart"), (95, "row_for")], b_pile_of⟩
def f_pile_of : FnS := defR (lk [(87, f_check_numbers), (92, f_lines_for), (67, f_is_straight), (40, f_valid_system), (91, f_grid_for), (44, f_keeps_apart), (95, f_row_for)]) 4 6 b_pile_of
def b__law_rows : List Sm :=
  [.asg (.one 2) (.lst [.tup []]),
  .forS (.one 3) (.rng [.var 0]) [.new 4 (.lst []),
    .forS (.one 5) (.seq (.var 2)) [.ext 4 (.lc (.prim .add [.var 5, .tup [.var 6]]) (.one 6) (.rng [.prim .add [.var 1, .lit (.int 1)]]) [.orE (.prim .eq [.var 5, .tup []]) (.prim .le [.var 6, .prim .idx [.var 5, .prim .neg [.lit (.int 1)]]])])],
    .asg (.one 2) (.var 4)],
  .ret (.var 2)]
def row__law_rows (i : Nat) : DRow := ⟨i, "_law_rows", 2, ["b", "c", "rows", "at", "later", "row", "one"], [], b__law_rows⟩
def f__law_rows : FnS := defR (lk []) 2 7 b__law_rows
def b__law_number : List Sm :=
  [.asg (.one 2) (.prim .mul [.lst [.lit (.int 1)], .prim .len [.var 1]]),
  .forS (.one 3) (.rng [.prim .sub [.var 0, .lit (.int 1)]]) [.new 4 (.lst []),
    .forS (.one 5) (.seq (.var 1)) [.asg (.one 6) (.lc (.prim .eq [.lc (.lit (.int 1)) (.many [8, 9]) (.zip [.var 5, .var 7]) [.prim .gt [.var 8, .var 9]], .lst []]) (.one 7) (.seq (.var 1)) []),
      .app 4 (.prim .sum [.lc (.var 10) (.many [10, 11]) (.zip [.var 2, .var 6]) [.var 11]])],
    .asg (.one 2) (.var 4)],
  .ret (.prim .sum [.var 2])]
def row__law_number (i : Nat) : DRow := ⟨i, "_law_number", 2, ["a", "rows", "counts", "again", "later", "row", "fits", "above", "one", "other", "count", "fit"], [], b__law_number⟩
def f__law_number : FnS := defR (lk []) 2 12 b__law_number
def b_law_k10 : List Sm :=
  [.new 1 (.lst []),
  .asgL [11, 12, 13] (.lc (.prim .add [.lit (.int 1), .call 7 [.var 0, .var 1, .lit (.int 3)]]) (.one 19) (.rng [.lit (.int 3)]) []),
  .asg (.one 2) (.call 97 [.var 12, .var 13]),
  .asg (.one 3) (.call 98 [.var 11, .var 2]),
  .ite (.notE (.call 24 [.call 88 [.var 11, .var 12, .var 13], .var 3])) [.ret (.lit (.bool false))] [],
  .asg (.one 4) (.prim .mul [.tup [.prim .mul [.tup [.lit (.int 1)], .prim .add [.var 11, .var 12]]], .prim .add [.var 11, .var 13]]),
  .asg (.one 5) (.prim .tupOf [.lc (.tup [.prim .sub [.prim .sub [.var 11, .lit (.int 1)], .var 16], .var 16]) (.one 16) (.rng [.var 11]) []]),
  .asg (.one 6) (.tup [.var 5, .prim .tupOf [.lc (.tup [.prim .add [.var 24, .var 12], .prim .add [.var 25, .var 13]]) (.many [24, 25]) (.seq (.var 5)) []]]),
  .ite (.prim .ne [.call 35 [.var 4, .var 6], .var 3]) [.ret (.lit (.bool false))] [],
  .new 7 (.lst [.call 8 [.var 0, .var 1, .var 2]]),
  .whl 100000 (.prim .lt [.prim .len [.var 7], .var 11]) [.asg (.one 14) (.prim .idx [.var 7, .prim .neg [.lit (.int 1)]]),
    .asg (.one 15) (.lc (.var 20) (.one 20) (.seq (.var 2)) [.prim .eq [.lc (.lit (.int 1)) (.many [22, 23]) (.zip [.var 20, .var 14]) [.prim .gt [.var 22, .var 23]], .lst []]]),
    .app 7 (.call 8 [.var 0, .var 1, .var 15])],
  .asg (.one 8) (.prim .tupOf [.var 7]),
  .asg (.one 9) (.call 94 [.var 11, .var 12, .var 13, .var 8]),
  .forS (.many [16, 17]) (.enum (.var 9)) [.asg (.one 18) (.lc (.prim .idx [.var 22, .lit (.int 1)]) (.many [22, 23]) (.zip [.var 17, .prim (.slc true false) [.var 17, .lit (.int 1)]]) [.prim .gt [.prim .idx [.var 23, .lit (.int 0)], .prim .idx [.var 22, .lit (.int 0)]]]),
    .ite (.orE (.prim .ne [.prim .idx [.var 17, .lit (.int 0)], .prim .idx [.var 5, .var 16]]) (.prim .ne [.var 18, .lc (.prim .sub [.prim .add [.var 16, .var 13], .var 26]) (.one 26) (.seq (.prim .idx [.var 8, .var 16])) []])) [.ret (.lit (.bool false))] []],
  .ite (.orE (.prim .isnot [.call 90 [.var 11, .var 12, .var 13, .var 8], .lit (.bool true)]) (.prim .isnot [.call 45 [.var 4, .var 6, .var 9], .lit (.bool true)])) [.ret (.lit (.bool false))] [],
  .ite (.prim .ne [.call 96 [.var 11, .var 12, .var 13, .var 9], .var 8]) [.ret (.lit (.bool false))] [],
  .new 10 (.lst [.lit .none, .prim .listOf [.var 8], .prim (.slc true false) [.var 8, .lit (.int 1)], .prim .add [.var 8, .prim (.slc true false) [.var 8, .prim .neg [.lit (.int 1)]]], .prim .add [.prim (.slc false true) [.var 8, .prim .neg [.lit (.int 1)]], .tup [.prim .add [.prim .idx [.var 8, .prim .neg [.lit (.int 1)]], .tup [.lit (.int 0)]]]], .prim .add [.prim (.slc false true) [.var 8, .prim .neg [.lit (.int 1)]], .tup [.prim .mul [.tup [.prim .add [.var 13, .lit (.int 1)]], .var 12]]]]),
  .ite (.prim .gt [.var 11, .lit (.int 1)]) [.app 10 (.prim .add [.prim .mul [.tup [.prim .mul [.tup [.lit (.int 0)], .var 12]], .prim .sub [.var 11, .lit (.int 1)]], .tup [.prim .mul [.tup [.var 13], .var 12]]])] [],
  .ext 10 (.lst [.prim .add [.prim (.slc false true) [.var 8, .prim .neg [.lit (.int 1)]], .tup [.prim .listOf [.prim .idx [.var 8, .prim .neg [.lit (.int 1)]]]]], .prim .add [.prim (.slc false true) [.var 8, .prim .neg [.lit (.int 1)]], .tup [.prim .mul [.tup [.prim .neg [.lit (.int 1)]], .var 12]]], .prim .add [.prim (.slc false true) [.var 8, .prim .neg [.lit (.int 1)]], .tup [.prim .mul [.tup [.lit (.bool true)], .var 12]]]]),
  .ret (.prim .eq [.lc (.call 90 [.var 11, .var 12, .var 13, .var 21]) (.one 21) (.seq (.var 10)) [], .prim .mul [.lst [.lit (.bool false)], .prim .len [.var 10]]])]
def row_law_k10 (i : Nat) : DRow := ⟨i, "law", 1, ["script", "town", "rows", "due", "field", "starts", "lines", "pile", "own", "system", "odds", "a", "b", "c", "last", "some", "i", "road", "heights", "again", "row", "odd", "p", "q", "x", "y", "one"], [(7, "_law_draw"), (97, "_law_rows"), (98, "_law_number"), (24, "_law_same_number"), (88, "count_piles"), (35, "determinant"), (8, "_law_pick"), (94, "system_of"), (45, "is_apart"), (90, "is_pile"), (96, "pile_of")], b_law_k10⟩
def f_law_k10 : FnS := defR (lk [(7, f__law_draw), (97, f__law_rows), (98, f__law_number), (24, f__law_same_number), (88, f_count_piles), (35, f_determinant), (8, f__law_pick), (94, f_system_of), (45, f_is_apart), (90, f_is_pile), (96, f_pile_of)]) 1 27 b_law_k10
def b_format_grid : List Sm :=
  [.exp (.call 2 [.var 0]),
  .ret (.prim .join [.lit (.str "\n"), .lc (.prim .join [.lit (.str ""), .lc (.prim .strI [.var 2]) (.one 2) (.seq (.var 1)) []]) (.one 1) (.seq (.prim .rev [.var 0])) []])]
def row_format_grid (i : Nat) : DRow := ⟨i, "format_grid", 1, ["grid", "row", "entry"], [(2, "check_grid")], b_format_grid⟩
def f_format_grid : FnS := defR (lk [(2, f_check_grid)]) 1 3 b_format_grid
def b_parse_grid : List Sm :=
  [.ite (.orE (.notE (.prim (.isi .str) [.var 0])) (.notE (.prim .all [.lc (.prim .inn [.var 4, .prim .add [.glb "DIGITS" (.str "0123456789"), .lit (.str "\n")]]) (.one 4) (.seq (.var 0)) []]))) [.raise 15] [],
  .asg (.one 1) (.prim .rev [.prim .split [.var 0, .lit (.str "\n")]]),
  .asg (.one 2) (.prim .tupOf [.lc (.prim .tupOf [.lc (.prim .intS [.var 4]) (.one 4) (.seq (.var 3)) []]) (.one 3) (.seq (.var 1)) []]),
  .ite (.notE (.call 1 [.var 2])) [.raise 15] [],
  .ret (.var 2)]
def row_parse_grid (i : Nat) : DRow := ⟨i, "parse_grid", 1, ["text", "rows", "grid", "row", "sign"], [(1, "is_grid")], b_parse_grid⟩
def f_parse_grid : FnS := defR (lk [(1, f_is_grid)]) 1 5 b_parse_grid
def b__law_read : List Sm :=
  [.ask 1 [.ret (.call 101 [.var 0])]]
def row__law_read (i : Nat) : DRow := ⟨i, "_law_read", 1, ["text", "e"], [(101, "parse_grid")], b__law_read⟩
def f__law_read : FnS := defR (lk [(101, f_parse_grid)]) 1 2 b__law_read
def b_law_k11 : List Sm :=
  [.new 1 (.lst []),
  .asg (.one 2) (.call 9 [.var 0, .var 1, .lit (.int 6)]),
  .new 3 (.lst []),
  .forS (.one 4) (.dwn (.prim .sub [.prim .len [.var 2], .lit (.int 1)])) [.app 3 (.prim .join [.lit (.str ""), .lc (.prim .strI [.var 8]) (.one 8) (.seq (.prim .idx [.var 2, .var 4])) []])],
  .asg (.one 5) (.prim .join [.lit (.str "\n"), .var 3]),
  .ite (.orE (.prim .ne [.call 100 [.var 2], .var 5]) (.prim .ne [.call 102 [.var 5], .var 2])) [.ret (.lit (.bool false))] [],
  .new 6 (.lst [.lit .none, .lit (.int 5), .lit (.str ""), .prim .add [.var 5, .lit (.str "\n")], .prim .add [.lit (.str "\n"), .var 5], .prim .add [.lit (.str " "), .var 5], .prim .add [.var 5, .lit (.str " ")], .prim .add [.prim .add [.prim .add [.var 5, .lit (.str "\n")], .prim .idx [.var 3, .lit (.int 0)]], .lit (.str "0")], .prim .add [.lit (.str "-"), .var 5]]),
  .ext 6 (.lst [.prim .add [.prim (.slc false true) [.var 5, .prim .neg [.lit (.int 1)]], .lit (.str "x")], .prim .add [.prim .add [.var 5, .lit (.str "\n\n")], .prim .idx [.var 3, .lit (.int 0)]], .lit (.str "1234567"), .prim .join [.lit (.str "\n"), .prim .mul [.lst [.lit (.str "1")], .lit (.int 7)]]]),
  .app 6 (.prim .add [.prim .add [.var 5, .lit (.str "\n")], .prim .mul [.lit (.str "0"), .lit (.int 7)]]),
  .ret (.prim .eq [.lc (.call 102 [.var 7]) (.one 7) (.seq (.var 6)) [], .prim .mul [.lst [.tup [.lit (.str "raised"), .lit (.int 14)]], .prim .len [.var 6]]])]
def row_law_k11 (i : Nat) : DRow := ⟨i, "law", 1, ["script", "town", "own", "lines", "y", "text", "odds", "odd", "entry"], [(9, "_law_field"), (102, "_law_read"), (100, "format_grid")], b_law_k11⟩
def f_law_k11 : FnS := defR (lk [(9, f__law_field), (102, f__law_read), (100, f_format_grid)]) 1 9 b_law_k11
def b__wall : List Sm :=
  [.whl 100000 (.lit (.bool true)) [.pass]]
def row__wall (i : Nat) : DRow := ⟨i, "_wall", 1, ["k"], [], b__wall⟩
def f__wall : FnS := defR (lk []) 1 1 b__wall
def b_R___len__ : List Sm :=
  [.ret (.flen 0)]
def row_R___len__ (i : Nat) : DRow := ⟨i, "__len__", 1, ["self"], [], b_R___len__⟩
def f_R___len__ : FnS := defR (lk []) 1 1 b_R___len__
def b_R___str__ : List Sm :=
  [.new 1 (.lst []),
  .forS (.one 2) (.seq (.fld 0 .routes)) [.app 1 (.prim .join [.lit (.str ""), .lc (.ite (.prim .gt [.prim .idx [.var 4, .lit (.int 0)], .prim .idx [.var 3, .lit (.int 0)]]) (.lit (.str "R")) (.lit (.str "U"))) (.many [3, 4]) (.zip [.var 2, .prim (.slc true false) [.var 2, .lit (.int 1)]]) []])],
  .ret (.prim .join [.lit (.str "/"), .var 1])]
def row_R___str__ (i : Nat) : DRow := ⟨i, "__str__", 1, ["self", "words", "path", "one", "other"], [], b_R___str__⟩
def f_R___str__ : FnS := defR (lk []) 1 5 b_R___str__
def b_R___eq__ : List Sm :=
  [.ite (.notE (.isR 1)) [.ret (.lit (.bool false))] [],
  .ret (.prim .eq [.tup [.fld 0 .grid, .fld 0 .lines, .fld 0 .routes], .tup [.fld 1 .grid, .fld 1 .lines, .fld 1 .routes]])]
def row_R___eq__ (i : Nat) : DRow := ⟨i, "__eq__", 2, ["self", "other"], [], b_R___eq__⟩
def f_R___eq__ : FnS := defR (lk []) 2 2 b_R___eq__
def b_R_taken : List Sm :=
  [.ret (.call 43 [.fld 0 .routes])]
def row_R_taken (i : Nat) : DRow := ⟨i, "taken", 1, ["self"], [(43, "points_of")], b_R_taken⟩
def f_R_taken : FnS := defR (lk [(43, f_points_of)]) 1 1 b_R_taken
def b_R_free : List Sm :=
  [.asg (.one 3) (.prim .idx [.call 14 [.prim .idx [.prim .idx [.fld 0 .routes, .var 1], .prim .neg [.lit (.int 1)]]], .prim .tidx [.glb "WAYS" (.str "RU"), .var 2]]),
  .ret (.ite (.andE (.prim .gt [.call 12 [.fld 0 .grid, .var 3], .lit (.int 0)]) (.prim .notin [.var 3, .meth 904 0 []])) (.var 3) (.lit .none))]
def row_R_free (i : Nat) : DRow := ⟨i, "free", 3, ["self", "number", "way", "point"], [(14, "after"), (12, "weight_at")], b_R_free⟩
def f_R_free : FnS := defR (lk [(14, f_after), (12, f_weight_at), (904, f_R_taken)]) 3 4 b_R_free
def b_R_extended : List Sm :=
  [.asg (.one 3) (.prim .add [.prim .idx [.fld 0 .routes, .var 1], .tup [.var 2]]),
  .ret (.prim .add [.prim .add [.prim (.slc false true) [.fld 0 .routes, .var 1], .tup [.var 3]], .prim (.slc true false) [.fld 0 .routes, .prim .add [.var 1, .lit (.int 1)]]])]
def row_R_extended (i : Nat) : DRow := ⟨i, "extended", 3, ["self", "number", "point", "path"], [], b_R_extended⟩
def f_R_extended : FnS := defR (lk []) 3 4 b_R_extended
def b_R_step : List Sm :=
  [.ite (.notE (.call 0 [.var 1, .lit (.int 0), .prim .sub [.prim .len [.fld 0 .routes], .lit (.int 1)]])) [.raise 6] [],
  .ite (.prim .notin [.var 2, .tup [.lit (.str "R"), .lit (.str "U")]]) [.raise 8] [],
  .asg (.one 3) (.meth 905 0 [.var 1, .var 2]),
  .ite (.prim .is [.var 3, .lit .none]) [.raise 8] [],
  .setf 0 .routes (.meth 906 0 [.var 1, .var 3]),
  .fapp 0 1,
  .ret (.var 3)]
def row_R_step (i : Nat) : DRow := ⟨i, "step", 3, ["self", "number", "way", "point"], [(0, "is_integer")], b_R_step⟩
def f_R_step : FnS := defR (lk [(0, f_is_integer), (905, f_R_free), (906, f_R_extended)]) 3 4 b_R_step
def b__law_routed : List Sm :=
  [.newLL 6 7 4 14,
  .forS (.one 5) (.rng [.call 7 [.var 0, .var 1, .lit (.int 8)]]) [.asg (.one 8) (.call 7 [.var 0, .var 1, .lllen 6]),
    .asg (.one 9) (.call 8 [.var 0, .var 1, .lst [.lit (.str "R"), .lit (.str "U")]]),
    .asg (.many [12, 13]) (.llast 6 8),
    .asg (.one 10) (.ite (.prim .eq [.var 9, .lit (.str "R")]) (.tup [.prim .add [.var 12, .lit (.int 1)], .var 13]) (.tup [.var 12, .prim .add [.var 13, .lit (.int 1)]])),
    .asg (.one 11) (.andE (.prim .lt [.prim .idx [.var 10, .lit (.int 0)], .prim .len [.prim .idx [.var 2, .lit (.int 0)]]]) (.prim .lt [.prim .idx [.var 10, .lit (.int 1)], .prim .len [.var 2]])),
    .ite (.andE (.var 11) (.andE (.prim .gt [.prim .idx [.prim .idx [.var 2, .prim .idx [.var 10, .lit (.int 1)]], .prim .idx [.var 10, .lit (.int 0)]], .lit (.int 0)]) (.llnil 6 14 10))) [.ite (.prim .ne [.meth 907 3 [.var 8, .var 9], .var 10]) [.ret (.lit .none)] [],
      .llapp 6 8 10,
      .app 7 (.var 8)] []],
  .ret (.tup [.lc (.prim .tupOf [.var 14]) (.one 14) (.seq (.var 6)) [], .var 7])]
def row__law_routed (i : Nat) : DRow := ⟨i, "_law_routed", 5, ["script", "town", "field", "router", "begun", "again", "roads", "steps", "number", "way", "point", "inside", "x", "y", "road"], [(7, "_law_draw"), (8, "_law_pick")], b__law_routed⟩
def f__law_routed : FnS := defR (lk [(7, f__law_draw), (8, f__law_pick), (907, f_R_step)]) 5 15 b__law_routed
def b_R_system : List Sm :=
  [.ret (.fld 0 .routes)]
def row_R_system (i : Nat) : DRow := ⟨i, "system", 1, ["self"], [], b_R_system⟩
def f_R_system : FnS := defR (lk []) 1 1 b_R_system
def b_R_is_done : List Sm :=
  [.ret (.prim .all [.lc (.prim .eq [.prim .idx [.var 1, .prim .neg [.lit (.int 1)]], .var 2]) (.many [1, 2]) (.zip [.fld 0 .routes, .prim .idx [.fld 0 .lines, .lit (.int 1)]]) []])]
def row_R_is_done (i : Nat) : DRow := ⟨i, "is_done", 1, ["self", "path", "end"], [], b_R_is_done⟩
def f_R_is_done : FnS := defR (lk []) 1 3 b_R_is_done
def i_R_e1 : Ex := .call 31 [.var 1, .var 2]
def i_R_e3 : Ex := .prim .tupOf [.lc (.tup [.var 3]) (.one 3) (.seq (.prim .idx [.var 2, .lit (.int 0)])) []]
def row_R_init : DRow := ⟨0, "__init__", 3, ["self", "grid", "lines", "start"], [(31, "check_lines")], []⟩
def f_R_init : FnS := iniFn (lk [(31, f_check_lines)]) 4 i_R_e1 i_R_e3
def b_law_k12 : List Sm :=
  [.new 1 (.lst []),
  .asg (.one 2) (.call 25 [.var 0, .var 1, .lit (.int 5)]),
  .asg (.one 3) (.call 36 [.var 0, .var 1, .var 2, .prim .eq [.call 7 [.var 0, .var 1, .lit (.int 2)], .lit (.int 0)]]),
  .asg (.one 4) (.lc (.tup [.var 14]) (.one 14) (.seq (.prim .idx [.var 3, .lit (.int 0)])) []),
  .mkS 5 [.var 2, .var 3],
  .ite (.orE (.prim .ne [.rlen 901 5, .lit (.int 0)]) (.orE (.prim .ne [.meth 908 5 [], .prim .tupOf [.var 4]]) (.prim .ne [.meth 909 5 [], .prim .eq [.prim .idx [.var 3, .lit (.int 0)], .prim .idx [.var 3, .lit (.int 1)]]]))) [.ret (.lit (.bool false))] [],
  .asg (.one 6) (.call 105 [.var 0, .var 1, .var 2, .var 5, .var 4]),
  .ite (.orE (.prim .is [.var 6, .lit .none]) (.orE (.prim .ne [.meth 908 5 [], .prim .tupOf [.prim .idx [.var 6, .lit (.int 0)]]]) (.prim .ne [.rlen 901 5, .prim .len [.prim .idx [.var 6, .lit (.int 1)]]]))) [.ret (.lit (.bool false))] [],
  .new 7 (.lst []),
  .forS (.one 8) (.seq (.prim .idx [.var 6, .lit (.int 0)])) [.app 7 (.prim .join [.lit (.str ""), .lc (.ite (.prim .eq [.prim .idx [.var 15, .lit (.int 0)], .prim .idx [.var 16, .lit (.int 0)]]) (.lit (.str "U")) (.lit (.str "R"))) (.many [15, 16]) (.zip [.var 8, .prim (.slc true false) [.var 8, .lit (.int 1)]]) []])],
  .asg (.one 9) (.prim .tupOf [.lc (.prim .idx [.var 8, .prim .neg [.lit (.int 1)]]) (.one 8) (.seq (.prim .idx [.var 6, .lit (.int 0)])) []]),
  .ite (.orE (.prim .ne [.rstr 902 5, .prim .join [.lit (.str "/"), .var 7]]) (.notE (.call 50 [.meth 909 5 [], .prim .eq [.var 9, .prim .idx [.var 3, .lit (.int 1)]]]))) [.ret (.lit (.bool false))] [],
  .mkS 10 [.var 2, .var 3],
  .forS (.many [11, 12]) (.seq (.prim .rev [.prim .enumL [.var 7]])) [.forS (.one 13) (.seq (.var 12)) [.exp (.meth 907 10 [.var 11, .var 13])]],
  .ite (.orE (.notE (.req 903 10 5 false)) (.orE (.req 903 10 5 true) (.orE (.reqD 903 5 (.prim .idx [.var 6, .lit (.int 0)])) (.reqD 903 5 (.lit .none))))) [.ret (.lit (.bool false))] [],
  .ite (.andE (.prim .gt [.prim .len [.prim .idx [.var 3, .lit (.int 0)]], .lit (.int 1)]) (.mkq 903 [.var 2, .tup [.prim .idx [.var 3, .lit (.int 0)], .prim .rev [.prim .idx [.var 3, .lit (.int 1)]]]] [.var 2, .var 3])) [.ret (.lit (.bool false))] [],
  .ret (.andE (.prim .eq [.mkq1 903 [.var 2, .var 3] 5, .prim .eq [.prim .idx [.var 6, .lit (.int 1)], .lst []]]) (.prim .eq [.meth 908 5 [], .prim .tupOf [.prim .idx [.var 6, .lit (.int 0)]]]))]
def row_law_k12 (i : Nat) : DRow := ⟨i, "law", 1, ["script", "town", "own", "lines", "begun", "r", "got", "words", "road", "last", "again", "number", "word", "way", "start", "p", "q"], [(25, "_law_opened"), (36, "_law_some_lines"), (7, "_law_draw"), (105, "_law_routed"), (50, "_law_same_truth")], b_law_k12⟩
def f_law_k12 : FnS := defR (lk [(25, f__law_opened), (36, f__law_some_lines), (7, f__law_draw), (105, f__law_routed), (50, f__law_same_truth), (909, f_R_is_done), (908, f_R_system), (901, f_R___len__), (902, f_R___str__), (907, f_R_step), (903, f_R___eq__), (900, f_R_init)]) 1 17 b_law_k12
def b_R_able : List Sm :=
  [.asg (.one 2) (.prim .tupOf [.lc (.prim .idx [.var 7, .prim .neg [.lit (.int 1)]]) (.one 7) (.seq (.var 1)) []]),
  .asg (.one 3) (.call 43 [.lc (.prim (.slc false true) [.var 7, .prim .neg [.lit (.int 1)]]) (.one 7) (.seq (.var 1)) []]),
  .new 4 (.lst []),
  .forS (.many [5, 6]) (.enum (.fld 0 .grid)) [.app 4 (.prim .tupOf [.lc (.ite (.prim .inn [.tup [.var 8, .var 5], .var 3]) (.lit (.int 0)) (.var 9)) (.many [8, 9]) (.enum (.var 6)) []])],
  .ret (.prim .ne [.call 48 [.prim .tupOf [.var 4], .tup [.var 2, .prim .idx [.fld 0 .lines, .lit (.int 1)]], .lit (.int 1)], .lst []])]
def row_R_able (i : Nat) : DRow := ⟨i, "able", 2, ["self", "routes", "starts", "inner", "rows", "y", "row", "path", "x", "entry"], [(43, "points_of"), (48, "straight_systems")], b_R_able⟩
def f_R_able : FnS := defR (lk [(43, f_points_of), (48, f_straight_systems)]) 2 10 b_R_able
def b_R_advise : List Sm :=
  [.forS (.one 1) (.rng [.prim .len [.fld 0 .routes]]) [.forS (.one 2) (.seq (.glb "WAYS" (.str "RU"))) [.asg (.one 3) (.meth 905 0 [.var 1, .var 2]),
      .ite (.andE (.prim .isnot [.var 3, .lit .none]) (.meth 910 0 [.meth 906 0 [.var 1, .var 3]])) [.ret (.tup [.var 1, .var 2])] []]],
  .raise 13]
def row_R_advise (i : Nat) : DRow := ⟨i, "advise", 1, ["self", "number", "way", "point"], [], b_R_advise⟩
def f_R_advise : FnS := defR (lk [(905, f_R_free), (910, f_R_able), (906, f_R_extended)]) 1 4 b_R_advise
def b__law_ask_k13 : List Sm :=
  [.ask 1 [.ret (.meth 911 0 [])]]
def row__law_ask_k13 (i : Nat) : DRow := ⟨i, "_law_ask", 1, ["r", "e"], [], b__law_ask_k13⟩
def f__law_ask_k13 : FnS := defR (lk [(911, f_R_advise)]) 1 2 b__law_ask_k13
def b_R_can_finish : List Sm :=
  [.ret (.meth 910 0 [.fld 0 .routes])]
def row_R_can_finish (i : Nat) : DRow := ⟨i, "can_finish", 1, ["self"], [], b_R_can_finish⟩
def f_R_can_finish : FnS := defR (lk [(910, f_R_able)]) 1 1 b_R_can_finish
def b_law_k13 : List Sm :=
  [.new 1 (.lst []),
  .asg (.one 2) (.call 25 [.var 0, .var 1, .lit (.int 4)]),
  .asg (.one 3) (.call 36 [.var 0, .var 1, .var 2, .prim .gt [.call 7 [.var 0, .var 1, .lit (.int 3)], .lit (.int 0)]]),
  .asg (.one 4) (.lc (.var 9) (.many [9, 10, 11]) (.seq (.call 37 [.var 2, .var 3, .prim .idx [.var 3, .lit (.int 1)]])) []),
  .mkS 5 [.var 2, .var 3],
  .ite (.prim .eq [.call 7 [.var 0, .var 1, .lit (.int 2)], .lit (.int 0)]) [.exp (.call 105 [.var 0, .var 1, .var 2, .var 5, .lc (.tup [.var 12]) (.one 12) (.seq (.prim .idx [.var 3, .lit (.int 0)])) []])] [],
  .whl 100000 (.lit (.bool true)) [.asg (.one 6) (.meth 908 5 []),
    .asg (.one 7) (.lc (.var 9) (.one 9) (.seq (.var 4)) [.prim .eq [.lc (.lit (.int 1)) (.many [13, 14]) (.zip [.var 6, .var 9]) [.prim .ne [.prim (.slc false true) [.var 14, .prim .len [.var 13]], .var 13]], .lst []]]),
    .ite (.notE (.call 50 [.meth 912 5 [], .prim .ne [.var 7, .lst []]])) [.ret (.lit (.bool false))] [],
    .asg (.one 8) (.call 107 [.var 5]),
    .ite (.orE (.prim .eq [.var 7, .lst []]) (.meth 909 5 [])) [.brk] [],
    .ite (.prim .eq [.prim .idx [.var 8, .lit (.int 0)], .lit (.str "raised")]) [.ret (.lit (.bool false))] [],
    .exp (.meth 907 5 [.prim .idx [.var 8, .lit (.int 0)], .prim .idx [.var 8, .lit (.int 1)]])],
  .ite (.prim .eq [.var 7, .lst []]) [.ret (.prim .eq [.var 8, .tup [.lit (.str "raised"), .lit (.int 12)]])] [],
  .ret (.prim .is [.call 45 [.var 2, .var 3, .meth 908 5 []], .lit (.bool true)])]
def row_law_k13 (i : Nat) : DRow := ⟨i, "law", 1, ["script", "town", "own", "lines", "systems", "r", "here", "on", "got", "some", "value", "used", "start", "road", "full"], [(25, "_law_opened"), (36, "_law_some_lines"), (7, "_law_draw"), (37, "_law_together"), (105, "_law_routed"), (50, "_law_same_truth"), (107, "_law_ask"), (45, "is_apart")], b_law_k13⟩
def f_law_k13 : FnS := defR (lk [(25, f__law_opened), (36, f__law_some_lines), (7, f__law_draw), (37, f__law_together), (105, f__law_routed), (50, f__law_same_truth), (107, f__law_ask_k13), (45, f_is_apart), (908, f_R_system), (912, f_R_can_finish), (909, f_R_is_done), (907, f_R_step), (900, f_R_init)]) 1 15 b_law_k13
def b_R_undo : List Sm :=
  [.ite (.prim .eq [.flen 0, .fld 0 .kept]) [.raise 14] [],
  .asg (.one 1) (.fpop 0),
  .asg (.one 2) (.prim (.slc false true) [.prim .idx [.fld 0 .routes, .var 1], .prim .neg [.lit (.int 1)]]),
  .setf 0 .routes (.prim .add [.prim .add [.prim (.slc false true) [.fld 0 .routes, .var 1], .tup [.var 2]], .prim (.slc true false) [.fld 0 .routes, .prim .add [.var 1, .lit (.int 1)]]]),
  .ret (.var 1)]
def row_R_undo (i : Nat) : DRow := ⟨i, "undo", 1, ["self", "number", "path"], [], b_R_undo⟩
def f_R_undo : FnS := defR (lk []) 1 3 b_R_undo
def b__law_back : List Sm :=
  [.ask 1 [.ret (.meth 913 0 [])]]
def row__law_back (i : Nat) : DRow := ⟨i, "_law_back", 1, ["r", "e"], [], b__law_back⟩
def f__law_back : FnS := defR (lk [(913, f_R_undo)]) 1 2 b__law_back
def b_law_k14 : List Sm :=
  [.new 1 (.lst []),
  .asg (.one 2) (.call 25 [.var 0, .var 1, .lit (.int 5)]),
  .asg (.one 3) (.call 36 [.var 0, .var 1, .var 2, .lit (.bool false)]),
  .asg (.one 4) (.lc (.tup [.var 10]) (.one 10) (.seq (.prim .idx [.var 3, .lit (.int 0)])) []),
  .mkS 5 [.var 2, .var 3],
  .asg (.one 6) (.call 105 [.var 0, .var 1, .var 2, .var 5, .var 4]),
  .ite (.prim .is [.var 6, .lit .none]) [.ret (.lit (.bool false))] [],
  .dupS 7 5,
  .ite (.orE (.notE (.req 903 7 5 false)) (.orE (.prim .ne [.call 109 [.var 7], .tup [.lit (.str "raised"), .lit (.int 13)]]) (.prim .ne [.rlen 901 7, .rlen 901 5]))) [.ret (.lit (.bool false))] [],
  .asg (.one 8) (.call 105 [.var 0, .var 1, .var 2, .var 7, .prim .idx [.var 6, .lit (.int 0)]]),
  .ite (.orE (.prim .is [.var 8, .lit .none]) (.orE (.prim .ne [.meth 908 7 [], .prim .tupOf [.prim .idx [.var 8, .lit (.int 0)]]]) (.prim .ne [.meth 908 5 [], .prim .tupOf [.prim .idx [.var 6, .lit (.int 0)]]]))) [.ret (.lit (.bool false))] [],
  .ite (.orE (.prim .ne [.rlen 901 5, .prim .len [.prim .idx [.var 6, .lit (.int 1)]]]) (.prim .ne [.rlen 901 7, .prim .add [.prim .len [.prim .idx [.var 6, .lit (.int 1)]], .prim .len [.prim .idx [.var 8, .lit (.int 1)]]]])) [.ret (.lit (.bool false))] [],
  .forS (.one 9) (.seq (.prim .rev [.prim .idx [.var 8, .lit (.int 1)]])) [.ite (.prim .ne [.call 109 [.var 7], .var 9]) [.ret (.lit (.bool false))] []],
  .ite (.orE (.prim .ne [.call 109 [.var 7], .tup [.lit (.str "raised"), .lit (.int 13)]]) (.prim .ne [.meth 908 7 [], .prim .tupOf [.prim .idx [.var 6, .lit (.int 0)]]])) [.ret (.lit (.bool false))] [],
  .forS (.one 9) (.seq (.prim .rev [.prim .idx [.var 6, .lit (.int 1)]])) [.ite (.prim .ne [.call 109 [.var 5], .var 9]) [.ret (.lit (.bool false))] []],
  .ite (.orE (.prim .ne [.call 109 [.var 5], .tup [.lit (.str "raised"), .lit (.int 13)]]) (.prim .ne [.rlen 901 5, .lit (.int 0)])) [.ret (.lit (.bool false))] [],
  .ret (.andE (.prim .eq [.meth 908 5 [], .prim .tupOf [.var 4]]) (.prim .eq [.meth 908 7 [], .prim .tupOf [.prim .idx [.var 6, .lit (.int 0)]]]))]
def row_law_k14 (i : Nat) : DRow := ⟨i, "law", 1, ["script", "town", "own", "lines", "begun", "r", "got", "twin", "more", "number", "start"], [(25, "_law_opened"), (36, "_law_some_lines"), (105, "_law_routed"), (109, "_law_back")], b_law_k14⟩
def f_law_k14 : FnS := defR (lk [(25, f__law_opened), (36, f__law_some_lines), (105, f__law_routed), (109, f__law_back), (901, f_R___len__), (903, f_R___eq__), (908, f_R_system), (900, f_R_init)]) 1 11 b_law_k14
def b__law_choose : List Sm :=
  [.asg (.one 2) (.lit (.int 1)),
  .forS (.one 3) (.rng [.var 1]) [.asg (.one 2) (.prim .fdiv [.prim .mul [.var 2, .prim .sub [.var 0, .var 3]], .prim .add [.var 3, .lit (.int 1)]])],
  .ret (.var 2)]
def row__law_choose (i : Nat) : DRow := ⟨i, "_law_choose", 2, ["many", "some", "value", "one"], [], b__law_choose⟩
def f__law_choose : FnS := defR (lk []) 2 4 b__law_choose
def b__law_small_ones : List Sm :=
  [.asg (.one 1) (.tup [.tup [.var 0, .var 0], .tup [.var 0, .var 0]]),
  .ite (.prim .ne [.call 35 [.var 1, .tup [.tup [.tup [.lit (.int 1), .lit (.int 0)], .tup [.lit (.int 0), .lit (.int 1)]], .tup [.tup [.lit (.int 1), .lit (.int 0)], .tup [.lit (.int 0), .lit (.int 1)]]]], .prim .mul [.var 0, .var 0]]) [.ret (.lit (.bool false))] [],
  .ite (.prim .ne [.call 49 [.var 1, .tup [.tup [.tup [.lit (.int 1), .lit (.int 0)], .tup [.lit (.int 0), .lit (.int 1)]], .tup [.tup [.lit (.int 1), .lit (.int 1)], .tup [.lit (.int 0), .lit (.int 1)]]]], .lst [.tup [.tup [.tup [.lit (.int 1), .lit (.int 0)], .tup [.lit (.int 1), .lit (.int 1)]], .tup [.tup [.lit (.int 0), .lit (.int 1)]]]]]) [.ret (.lit (.bool false))] [],
  .asg (.one 2) (.tup [.tup [.var 0, .var 0, .var 0]]),
  .asg (.one 3) (.tup [.tup [.tup [.lit (.int 0), .lit (.int 0)], .tup [.lit (.int 1), .lit (.int 0)]], .tup [.tup [.lit (.int 1), .lit (.int 0)], .tup [.lit (.int 2), .lit (.int 0)]]]),
  .ite (.prim .ne [.call 57 [.var 2, .tup [.tup [.tup [.lit (.int 0), .lit (.int 0)], .tup [.lit (.int 1), .lit (.int 0)]], .tup [.tup [.lit (.int 1), .lit (.int 0)], .tup [.lit (.int 2), .lit (.int 0)]]], .var 3], .tup [.tup [.tup [.lit (.int 0), .lit (.int 0)], .tup [.lit (.int 1), .lit (.int 0)], .tup [.lit (.int 2), .lit (.int 0)]], .tup [.tup [.lit (.int 1), .lit (.int 0)]]]]) [.ret (.lit (.bool false))] [],
  .ite (.orE (.prim .isnot [.call 84 [.var 2, .tup [.tup [.tup [.lit (.int 0), .lit (.int 0)]], .tup [.tup [.lit (.int 2), .lit (.int 0)]]], .tup [.tup [.lit (.int 1), .lit (.int 0)]]], .lit (.bool true)]) (.prim .ne [.call 88 [.lit (.int 2), .lit (.int 2), .lit (.int 2)], .lit (.int 20)])) [.ret (.lit (.bool false))] [],
  .ret (.andE (.prim .eq [.call 88 [.lit (.int 1), .lit (.int 3), .lit (.int 2)], .lit (.int 10)]) (.prim .eq [.call 96 [.lit (.int 1), .lit (.int 2), .lit (.int 2), .call 94 [.lit (.int 1), .lit (.int 2), .lit (.int 2), .tup [.tup [.lit (.int 2), .lit (.int 1)]]]], .tup [.tup [.lit (.int 2), .lit (.int 1)]]]))]
def row__law_small_ones (i : Nat) : DRow := ⟨i, "_law_small_ones", 1, ["k", "square", "row", "system"], [(35, "determinant"), (49, "apart_systems"), (57, "exchange"), (88, "count_piles"), (84, "is_barrier"), (96, "pile_of"), (94, "system_of")], b__law_small_ones⟩
def f__law_small_ones : FnS := defR (lk [(35, f_determinant), (49, f_apart_systems), (57, f_exchange), (88, f_count_piles), (84, f_is_barrier), (96, f_pile_of), (94, f_system_of)]) 1 4 b__law_small_ones
def b_law_k15 : List Sm :=
  [.new 1 (.lst []),
  .asg (.many [12, 13]) (.tup [.prim .add [.lit (.int 1), .call 7 [.var 0, .var 1, .lit (.int 5)]], .prim .add [.lit (.int 1), .call 7 [.var 0, .var 1, .lit (.int 5)]]]),
  .asg (.one 2) (.prim .add [.lit (.int 1), .call 7 [.var 0, .var 1, .lit (.int 9)]]),
  .asg (.one 3) (.prim .mul [.tup [.prim .mul [.tup [.lit (.int 1)], .prim .add [.var 12, .lit (.int 1)]]], .prim .add [.var 13, .lit (.int 1)]]),
  .asg (.one 4) (.call 111 [.prim .add [.var 12, .var 13], .var 12]),
  .ite (.orE (.prim .ne [.call 23 [.var 3, .tup [.lit (.int 0), .lit (.int 0)], .tup [.var 12, .var 13]], .var 4]) (.prim .ne [.prim .len [.call 19 [.var 3, .tup [.lit (.int 0), .lit (.int 0)], .tup [.var 12, .var 13]]], .var 4])) [.ret (.lit (.bool false))] [],
  .asg (.one 5) (.tup [.tup [.tup [.lit (.int 1), .lit (.int 0)], .tup [.lit (.int 0), .lit (.int 1)]], .tup [.tup [.var 12, .prim .sub [.var 13, .lit (.int 1)]], .tup [.prim .sub [.var 12, .lit (.int 1)], .var 13]]]),
  .ite (.andE (.prim .gt [.var 12, .lit (.int 1)]) (.prim .gt [.var 13, .lit (.int 1)])) [.asg (.one 14) (.prim .mul [.call 111 [.prim .sub [.prim .add [.var 12, .var 13], .lit (.int 2)], .prim .sub [.var 12, .lit (.int 1)]], .call 111 [.prim .sub [.prim .add [.var 12, .var 13], .lit (.int 2)], .prim .sub [.var 12, .lit (.int 1)]]]),
    .asg (.one 14) (.prim .sub [.var 14, .prim .mul [.call 111 [.prim .sub [.prim .add [.var 12, .var 13], .lit (.int 2)], .var 12], .call 111 [.prim .sub [.prim .add [.var 12, .var 13], .lit (.int 2)], .prim .sub [.var 12, .lit (.int 2)]]]]),
    .ite (.orE (.prim .ne [.call 35 [.var 3, .var 5], .var 14]) (.prim .isnot [.call 63 [.var 3, .var 5], .lit (.bool true)])) [.ret (.lit (.bool false))] []] [],
  .asg (.one 6) (.prim .mul [.tup [.prim .mul [.tup [.var 2], .prim .add [.var 12, .lit (.int 1)]]], .prim .add [.var 13, .lit (.int 1)]]),
  .asg (.one 7) (.prim .tupOf [.prim .add [.lc (.tup [.var 15, .lit (.int 0)]) (.one 15) (.rng [.prim .add [.var 12, .lit (.int 1)]]) [], .lc (.tup [.var 12, .var 16]) (.one 16) (.rng [.lit (.int 1), .prim .add [.var 13, .lit (.int 1)]]) []]]),
  .asg (.one 8) (.lit (.int 1)),
  .forS (.one 9) (.seq (.var 7)) [.asg (.one 8) (.prim .mul [.var 8, .var 2])],
  .asg (.one 10) (.tup [.tup [.tup [.lit (.int 0), .lit (.int 0)]], .tup [.tup [.var 12, .var 13]]]),
  .ite (.orE (.prim .ne [.call 21 [.var 6, .var 7], .var 8]) (.prim .ne [.call 33 [.var 6, .var 10], .tup [.tup [.prim .mul [.var 8, .call 111 [.prim .add [.var 12, .var 13], .var 12]]]]])) [.ret (.lit (.bool false))] [],
  .ite (.prim .ne [.call 76 [.var 6, .var 10], .tup [.var 7]]) [.ret (.lit (.bool false))] [],
  .asg (.one 11) (.prim .tupOf [.prim .add [.lc (.tup [.lit (.int 0), .var 16]) (.one 16) (.rng [.prim .add [.var 13, .lit (.int 1)]]) [], .lc (.tup [.var 15, .var 13]) (.one 15) (.rng [.lit (.int 1), .prim .add [.var 12, .lit (.int 1)]]) []]]),
  .ite (.orE (.prim .ne [.call 75 [.var 6, .var 10], .tup [.var 11]]) (.prim .ne [.prim .len [.call 83 [.var 3, .var 10]], .lit (.int 1)])) [.ret (.lit (.bool false))] [],
  .ite (.prim .ne [.prim .len [.call 82 [.var 3, .var 10]], .lit (.int 1)]) [.ret (.lit (.bool false))] [],
  .ret (.call 112 [.var 2])]
def row_law_k15 (i : Nat) : DRow := ⟨i, "law", 1, ["script", "town", "k", "field", "many", "lines", "heavy", "road", "power", "one", "one_line", "high", "a", "b", "due", "x", "y"], [(7, "_law_draw"), (111, "_law_choose"), (19, "paths"), (23, "total"), (63, "are_aligned"), (35, "determinant"), (33, "matrix"), (21, "weight"), (76, "bottommost"), (83, "barrier"), (75, "topmost"), (82, "most_paths"), (112, "_law_small_ones")], b_law_k15⟩
def f_law_k15 : FnS := defR (lk [(7, f__law_draw), (111, f__law_choose), (19, f_paths), (23, f_total), (63, f_are_aligned), (35, f_determinant), (33, f_matrix), (21, f_weight), (76, f_bottommost), (83, f_barrier), (75, f_topmost), (82, f_most_paths), (112, f__law_small_ones)]) 1 17 b_law_k15
def b__law_flip : List Sm :=
  [.ret (.prim .tupOf [.lc (.tup [.var 2, .var 1]) (.many [1, 2]) (.seq (.var 0)) []])]
def row__law_flip (i : Nat) : DRow := ⟨i, "_law_flip", 1, ["points", "x", "y"], [], b__law_flip⟩
def f__law_flip : FnS := defR (lk []) 1 3 b__law_flip
def b_law_k16 : List Sm :=
  [.new 1 (.lst []),
  .asg (.one 2) (.call 25 [.var 0, .var 1, .lit (.int 4)]),
  .asg (.one 3) (.call 36 [.var 0, .var 1, .var 2, .prim .gt [.call 7 [.var 0, .var 1, .lit (.int 3)], .lit (.int 0)]]),
  .asg (.many [13, 14]) (.tup [.prim .len [.prim .idx [.var 2, .lit (.int 0)]], .prim .len [.var 2]]),
  .asg (.one 4) (.prim .tupOf [.lc (.prim .tupOf [.lc (.prim .idx [.prim .idx [.var 2, .var 20], .var 17]) (.one 20) (.rng [.var 14]) []]) (.one 17) (.rng [.var 13]) []]),
  .asg (.one 5) (.tup [.prim .rev [.call 114 [.prim .idx [.var 3, .lit (.int 0)]]], .prim .rev [.call 114 [.prim .idx [.var 3, .lit (.int 1)]]]]),
  .asg (.one 6) (.call 33 [.var 2, .var 3]),
  .ite (.prim .ne [.call 33 [.var 4, .var 5], .prim .tupOf [.lc (.prim .rev [.var 18]) (.one 18) (.seq (.prim .rev [.var 6])) []]]) [.ret (.lit (.bool false))] [],
  .asg (.one 7) (.call 35 [.var 2, .var 3]),
  .ite (.orE (.prim .ne [.call 35 [.var 4, .var 5], .var 7]) (.prim .ne [.call 63 [.var 4, .var 5], .call 63 [.var 2, .var 3]])) [.ret (.lit (.bool false))] [],
  .asg (.one 8) (.prim .tupOf [.lc (.prim .rev [.var 18]) (.one 18) (.seq (.prim .rev [.var 2])) []]),
  .new 9 (.lst []),
  .forS (.one 10) (.seq (.tup [.prim .idx [.var 3, .lit (.int 1)], .prim .idx [.var 3, .lit (.int 0)]])) [.app 9 (.prim .tupOf [.lc (.tup [.prim .sub [.prim .sub [.var 13, .lit (.int 1)], .var 17], .prim .sub [.prim .sub [.var 14, .lit (.int 1)], .var 20]]) (.many [17, 20]) (.seq (.var 10)) []])],
  .ite (.orE (.prim .ne [.call 35 [.var 8, .prim .tupOf [.var 9]], .var 7]) (.prim .ne [.prim .len [.call 83 [.var 8, .prim .tupOf [.var 9]]], .prim .len [.call 83 [.var 2, .var 3]]])) [.ret (.lit (.bool false))] [],
  .par 15 16 false false (.prim .idx [.prim .idx [.var 3, .lit (.int 0)], .lit (.int 0)]) (.prim .idx [.prim .idx [.var 3, .lit (.int 1)], .lit (.int 0)]),
  .ite (.prim .ne [.call 23 [.var 8, .prim .idx [.prim .idx [.var 9, .lit (.int 0)], .lit (.int 0)], .prim .idx [.prim .idx [.var 9, .lit (.int 1)], .lit (.int 0)]], .call 23 [.var 2, .var 15, .var 16]]) [.ret (.lit (.bool false))] [],
  .ite (.prim .gt [.prim .len [.call 37 [.var 2, .var 3, .prim .idx [.var 3, .lit (.int 1)]]], .lit (.int 300)]) [.ret (.lit (.bool true))] [],
  .asg (.one 11) (.call 49 [.var 2, .var 3]),
  .ite (.orE (.prim .eq [.var 11, .lst []]) (.notE (.call 63 [.var 2, .var 3]))) [.ret (.lit (.bool true))] [],
  .asg (.one 12) (.prim .tupOf [.lc (.call 114 [.var 19]) (.one 19) (.seq (.prim .rev [.call 76 [.var 4, .var 5]])) []]),
  .ret (.andE (.prim .eq [.call 75 [.var 2, .var 3], .var 12]) (.prim .eq [.prim .len [.call 49 [.var 4, .var 5]], .prim .len [.var 11]]))]
def row_law_k16 (i : Nat) : DRow := ⟨i, "law", 1, ["script", "town", "own", "lines", "flipped", "other", "rows", "value", "turned", "back", "points", "found", "low", "wide", "high", "start", "end", "x", "row", "road", "y"], [(25, "_law_opened"), (36, "_law_some_lines"), (7, "_law_draw"), (114, "_law_flip"), (33, "matrix"), (35, "determinant"), (63, "are_aligned"), (83, "barrier"), (23, "total"), (37, "_law_together"), (49, "apart_systems"), (76, "bottommost"), (75, "topmost")], b_law_k16⟩
def f_law_k16 : FnS := defR (lk [(25, f__law_opened), (36, f__law_some_lines), (7, f__law_draw), (114, f__law_flip), (33, f_matrix), (35, f_determinant), (63, f_are_aligned), (83, f_barrier), (23, f_total), (37, f__law_together), (49, f_apart_systems), (76, f_bottommost), (75, f_topmost)]) 1 21 b_law_k16
def b_law_k17 : List Sm :=
  [.new 1 (.lst []),
  .asg (.one 2) (.call 25 [.var 0, .var 1, .lit (.int 4)]),
  .asg (.one 3) (.call 36 [.var 0, .var 1, .var 2, .lit (.bool true)]),
  .asg (.one 4) (.call 101 [.call 100 [.var 2]]),
  .ite (.prim .ne [.var 4, .var 2]) [.ret (.lit (.bool false))] [],
  .asg (.one 5) (.call 51 [.var 4, .var 3]),
  .stub,
  .stub,
  .ite (.prim .eq [.var 5, .lst []]) [.ret (.lit (.bool true))] [],
  .ite (.prim .ne [.prim .len [.call 82 [.var 4, .var 3]], .prim .len [.prim .idx [.var 3, .lit (.int 0)]]]) [.ret (.lit (.bool false))] [],
  .asg (.one 7) (.call 8 [.var 0, .var 1, .var 5]),
  .forS (.many [9, 10]) (.enum (.var 7)) [.forS (.many [11, 8]) (.zip [.var 10, .prim (.slc true false) [.var 10, .lit (.int 1)]]) [.stub]],
  .stub,
  .stub,
  .stub,
  .stub]
def row_law_k17 (i : Nat) : DRow := ⟨i, "law", 1, ["script", "town", "own", "lines", "read", "found", "r", "system", "q", "number", "road", "p", "way"], [(25, "_law_opened"), (36, "_law_some_lines"), (101, "parse_grid"), (100, "format_grid"), (51, "_law_straight_apart"), (82, "most_paths"), (8, "_law_pick"), (75, "topmost"), (45, "is_apart")], b_law_k17⟩
def f_law_k17 : FnS := defR (lk [(25, f__law_opened), (36, f__law_some_lines), (101, f_parse_grid), (100, f_format_grid), (51, f__law_straight_apart), (82, f_most_paths), (8, f__law_pick), (75, f_topmost), (45, f_is_apart)]) 1 13 b_law_k17
def b__law_told : List Sm :=
  [.asg (.one 2) (.lst [.call 4 [.var 0], .call 19 [.var 0, .prim .idx [.prim .idx [.var 1, .lit (.int 0)], .lit (.int 0)], .prim .idx [.prim .idx [.var 1, .lit (.int 1)], .lit (.int 0)]], .call 82 [.var 0, .var 1]]),
  .ret (.prim .add [.var 2, .lst [.lst [.call 33 [.var 0, .var 1], .call 35 [.var 0, .var 1], .call 83 [.var 0, .var 1], .call 63 [.var 0, .var 1]]]])]
def row__law_told (i : Nat) : DRow := ⟨i, "_law_told", 2, ["own", "lines", "made"], [(4, "open_points"), (19, "paths"), (82, "most_paths"), (33, "matrix"), (35, "determinant"), (83, "barrier"), (63, "are_aligned")], b__law_told⟩
def f__law_told : FnS := defR (lk [(4, f_open_points), (19, f_paths), (82, f_most_paths), (33, f_matrix), (35, f_determinant), (83, f_barrier), (63, f_are_aligned)]) 2 3 b__law_told
def b_law_k18 : List Sm :=
  [.new 1 (.lst []),
  .asg (.one 2) (.call 25 [.var 0, .var 1, .lit (.int 5)]),
  .asg (.one 3) (.call 25 [.var 0, .var 1, .lit (.int 4)]),
  .asg (.one 4) (.call 36 [.var 0, .var 1, .var 2, .prim .eq [.call 7 [.var 0, .var 1, .lit (.int 2)], .lit (.int 0)]]),
  .asg (.one 5) (.call 36 [.var 0, .var 1, .var 3, .lit (.bool false)]),
  .asg (.one 6) (.call 117 [.var 2, .var 4]),
  .asg (.one 7) (.call 117 [.var 3, .var 5]),
  .stub,
  .forS (.one 9) (.rng [.lit (.int 3)]) [.stub],
  .forS (.one 10) (.seq (.call 117 [.var 2, .var 4])) [.app 10 (.lit .none)],
  .ret (.andE (.prim .eq [.call 117 [.var 2, .var 4], .var 6]) (.prim .eq [.call 117 [.var 3, .var 5], .var 7]))]
def row_law_k18 (i : Nat) : DRow := ⟨i, "law", 1, ["script", "town", "own", "other", "lines", "far", "first", "second", "r", "again", "some", "start"], [(25, "_law_opened"), (36, "_law_some_lines"), (7, "_law_draw"), (117, "_law_told")], b_law_k18⟩
def f_law_k18 : FnS := defR (lk [(25, f__law_opened), (36, f__law_some_lines), (7, f__law_draw), (117, f__law_told)]) 1 12 b_law_k18
def b_open_points_cut : List Sm :=
  [.exp (.call 2 [.var 0]), .stub]
def row_open_points_cut (i : Nat) : DRow := ⟨i, "open_points", 1, ["grid"], [(2, "check_grid")], b_open_points_cut⟩
def f_open_points_cut : FnS := defR (lk [(2, f_check_grid)]) 1 1 b_open_points_cut
def b_check_points_cut : List Sm :=
  [.exp (.call 2 [.var 0]), .stub]
def row_check_points_cut (i : Nat) : DRow := ⟨i, "check_points", 3, ["grid", "start", "end"], [(2, "check_grid")], b_check_points_cut⟩
def f_check_points_cut : FnS := defR (lk [(2, f_check_grid)]) 3 3 b_check_points_cut
def b_paths_cut : List Sm :=
  [.exp (.call 149 [.var 0, .var 1, .var 2]), .stub]
def row_paths_cut (i : Nat) : DRow := ⟨i, "paths", 3, ["grid", "start", "end"], [(149, "check_points")], b_paths_cut⟩
def f_paths_cut : FnS := defR (lk [(149, f_check_points_cut)]) 3 3 b_paths_cut
def b_weight_cut : List Sm :=
  [.exp (.call 2 [.var 0]), .stub, .stub]
def row_weight_cut (i : Nat) : DRow := ⟨i, "weight", 2, ["grid", "path"], [(2, "check_grid")], b_weight_cut⟩
def f_weight_cut : FnS := defR (lk [(2, f_check_grid)]) 2 2 b_weight_cut
def b_total_cut : List Sm :=
  [.exp (.call 149 [.var 0, .var 1, .var 2]), .stub]
def row_total_cut (i : Nat) : DRow := ⟨i, "total", 3, ["grid", "start", "end"], [(149, "check_points")], b_total_cut⟩
def f_total_cut : FnS := defR (lk [(149, f_check_points_cut)]) 3 3 b_total_cut
def b_permutation_cut : List Sm :=
  [.exp (.call 42 [.var 0, .var 1, .var 2]), .stub]
def row_permutation_cut (i : Nat) : DRow := ⟨i, "permutation", 3, ["grid", "lines", "system"], [(42, "check_system")], b_permutation_cut⟩
def f_permutation_cut : FnS := defR (lk [(42, f_check_system)]) 3 3 b_permutation_cut
def b_apart_systems_cut : List Sm :=
  [.exp (.call 31 [.var 0, .var 1]), .stub, .stub, .stub]
def row_apart_systems_cut (i : Nat) : DRow := ⟨i, "apart_systems", 2, ["grid", "lines", "found"], [(31, "check_lines")], b_apart_systems_cut⟩
def f_apart_systems_cut : FnS := defR (lk [(31, f_check_lines)]) 2 3 b_apart_systems_cut
def b_most_paths_cut : List Sm :=
  [.exp (.call 31 [.var 0, .var 1]), .stub, .stub, .stub, .stub]
def row_most_paths_cut (i : Nat) : DRow := ⟨i, "most_paths", 2, ["grid", "lines", "result", "node", "follow", "used", "before", "path", "one"], [(31, "check_lines")], b_most_paths_cut⟩
def f_most_paths_cut : FnS := defR (lk [(31, f_check_lines)]) 2 9 b_most_paths_cut
def b_barrier_cut : List Sm :=
  [.exp (.call 31 [.var 0, .var 1]), .stub, .stub, .stub]
def row_barrier_cut (i : Nat) : DRow := ⟨i, "barrier", 2, ["grid", "lines", "found", "follow", "used", "before", "node"], [(31, "check_lines")], b_barrier_cut⟩
def f_barrier_cut : FnS := defR (lk [(31, f_check_lines)]) 2 7 b_barrier_cut
def b_is_barrier_cut : List Sm :=
  [.exp (.call 31 [.var 0, .var 1]),
  .ite (.orE (.notE (.prim (.isi .tuple) [.var 2])) (.notE (.prim .all [.lc (.call 13 [.var 0, .var 5]) (.one 5) (.seq (.var 2)) []]))) [.ret (.lit (.bool false))] [], .stub, .stub, .stub, .stub, .stub]
def row_is_barrier_cut (i : Nat) : DRow := ⟨i, "is_barrier", 3, ["grid", "lines", "value", "line", "seen", "point", "start", "end", "one", "other"], [(31, "check_lines"), (13, "is_open")], b_is_barrier_cut⟩
def f_is_barrier_cut : FnS := defR (lk [(31, f_check_lines), (13, f_is_open)]) 3 10 b_is_barrier_cut
def b_matrix_cut : List Sm :=
  [.exp (.call 31 [.var 0, .var 1]), .stub]
def row_matrix_cut (i : Nat) : DRow := ⟨i, "matrix", 2, ["grid", "lines"], [(31, "check_lines")], b_matrix_cut⟩
def f_matrix_cut : FnS := defR (lk [(31, f_check_lines)]) 2 2 b_matrix_cut
def b_determinant_cut : List Sm :=
  [.exp (.call 31 [.var 0, .var 1]), .stub]
def row_determinant_cut (i : Nat) : DRow := ⟨i, "determinant", 2, ["grid", "lines"], [(31, "check_lines")], b_determinant_cut⟩
def f_determinant_cut : FnS := defR (lk [(31, f_check_lines)]) 2 2 b_determinant_cut
def b_exchange_cut : List Sm :=
  [.exp (.call 42 [.var 0, .var 1, .var 2]), .stub, .stub]
def row_exchange_cut (i : Nat) : DRow := ⟨i, "exchange", 3, ["grid", "lines", "system"], [(42, "check_system")], b_exchange_cut⟩
def f_exchange_cut : FnS := defR (lk [(42, f_check_system)]) 3 3 b_exchange_cut
def b_format_grid_cut : List Sm :=
  [.exp (.call 2 [.var 0]), .stub]
def row_format_grid_cut (i : Nat) : DRow := ⟨i, "format_grid", 1, ["grid", "row", "entry"], [(2, "check_grid")], b_format_grid_cut⟩
def f_format_grid_cut : FnS := defR (lk [(2, f_check_grid)]) 1 3 b_format_grid_cut
def b_are_aligned_cut : List Sm :=
  [.exp (.call 31 [.var 0, .var 1]), .stub]
def row_are_aligned_cut (i : Nat) : DRow := ⟨i, "are_aligned", 2, ["grid", "lines"], [(31, "check_lines")], b_are_aligned_cut⟩
def f_are_aligned_cut : FnS := defR (lk [(31, f_check_lines)]) 2 2 b_are_aligned_cut
def b_check_straight_cut : List Sm :=
  [.exp (.call 42 [.var 0, .var 1, .var 2]), .stub]
def row_check_straight_cut (i : Nat) : DRow := ⟨i, "check_straight", 3, ["grid", "lines", "system"], [(42, "check_system")], b_check_straight_cut⟩
def f_check_straight_cut : FnS := defR (lk [(42, f_check_system)]) 3 3 b_check_straight_cut
def b_upper_and_lower_cut : List Sm :=
  [.exp (.call 163 [.var 0, .var 1, .var 2]), .stub, .stub, .stub]
def row_upper_and_lower_cut (i : Nat) : DRow := ⟨i, "upper_and_lower", 4, ["grid", "lines", "one", "other", "upper", "first", "second"], [(163, "check_straight")], b_upper_and_lower_cut⟩
def f_upper_and_lower_cut : FnS := defR (lk [(163, f_check_straight_cut)]) 4 7 b_upper_and_lower_cut
def b_check_aligned_cut : List Sm :=
  [.exp (.call 31 [.var 0, .var 1]), .stub]
def row_check_aligned_cut (i : Nat) : DRow := ⟨i, "check_aligned", 2, ["grid", "lines"], [(31, "check_lines")], b_check_aligned_cut⟩
def f_check_aligned_cut : FnS := defR (lk [(31, f_check_lines)]) 2 2 b_check_aligned_cut
def b_topmost_cut : List Sm :=
  [.exp (.call 165 [.var 0, .var 1]), .stub]
def row_topmost_cut (i : Nat) : DRow := ⟨i, "topmost", 2, ["grid", "lines"], [(165, "check_aligned")], b_topmost_cut⟩
def f_topmost_cut : FnS := defR (lk [(165, f_check_aligned_cut)]) 2 2 b_topmost_cut
def b_bottommost_cut : List Sm :=
  [.exp (.call 165 [.var 0, .var 1]), .stub]
def row_bottommost_cut (i : Nat) : DRow := ⟨i, "bottommost", 2, ["grid", "lines"], [(165, "check_aligned")], b_bottommost_cut⟩
def f_bottommost_cut : FnS := defR (lk [(165, f_check_aligned_cut)]) 2 2 b_bottommost_cut
def b_Router_init : List Sm := [.exp (.call 31 [.var 1, .var 2]), .stub, .stub, .stub, .stub, .stub]
def row_Router_init : DRow := ⟨0, "__init__", 3, ["self", "grid", "lines", "start"], [(31, "check_lines")], b_Router_init⟩
def f_Router_init : FnS := fun as => if as.length + 1 = 3 then mkFn (lk [(31, f_check_lines)]) 4 b_Router_init as else .bad
def b__law_two : List Sm :=
  [.ask 3 [.ite (.prim .lt [.var 0, .lit (.int 8)]) [.selS 4 [154, 158, 159, 162, 166, 167, 155, 156] (.var 0) [.var 1, .var 2]] [],
    .ret (.mk 900 [.var 1, .var 2])]]
def row__law_two (i : Nat) : DRow := ⟨i, "_law_two", 3, ["what", "own", "lines", "e", "some"], [(154, "apart_systems"), (158, "matrix"), (159, "determinant"), (162, "are_aligned"), (166, "topmost"), (167, "bottommost"), (155, "most_paths"), (156, "barrier")], b__law_two⟩
def f__law_two : FnS := defR (lk [(154, f_apart_systems_cut), (158, f_matrix_cut), (159, f_determinant_cut), (162, f_are_aligned_cut), (166, f_topmost_cut), (167, f_bottommost_cut), (155, f_most_paths_cut), (156, f_barrier_cut), (900, f_Router_init)]) 3 5 b__law_two
def b__law_three : List Sm :=
  [.ask 4 [.ite (.prim .lt [.var 0, .lit (.int 5)]) [.ret (.sel [41, 45, 153, 160, 157] (.var 0) [.var 1, .var 2, .var 3])] [],
    .ret (.call 164 [.var 1, .var 2, .var 3, .var 3])]]
def row__law_three (i : Nat) : DRow := ⟨i, "_law_three", 4, ["what", "own", "lines", "other", "e"], [(41, "is_system"), (45, "is_apart"), (153, "permutation"), (160, "exchange"), (157, "is_barrier"), (164, "upper_and_lower")], b__law_three⟩
def f__law_three : FnS := defR (lk [(41, f_is_system), (45, f_is_apart), (153, f_permutation_cut), (160, f_exchange_cut), (157, f_is_barrier_cut), (164, f_upper_and_lower_cut)]) 4 5 b__law_three
def b__law_plain : List Sm :=
  [.ask 3 [.ite (.prim .lt [.var 0, .lit (.int 2)]) [.ret (.sel [148, 161] (.var 0) [.var 1])] [],
    .ret (.ite (.prim .gt [.var 0, .lit (.int 3)]) (.sel [150, 152] (.prim .sub [.var 0, .lit (.int 4)]) [.var 1, .var 2, .var 2]) (.sel [16, 151] (.prim .sub [.var 0, .lit (.int 2)]) [.var 1, .var 2]))]]
def row__law_plain (i : Nat) : DRow := ⟨i, "_law_plain", 3, ["what", "own", "other", "e"], [(148, "open_points"), (161, "format_grid"), (150, "paths"), (152, "total"), (16, "is_path"), (151, "weight")], b__law_plain⟩
def f__law_plain : FnS := defR (lk [(148, f_open_points_cut), (161, f_format_grid_cut), (150, f_paths_cut), (152, f_total_cut), (16, f_is_path), (151, f_weight_cut)]) 3 4 b__law_plain
def b_law_k19 : List Sm :=
  [.new 1 (.lst []),
  .asg (.one 2) (.prim .add [.lit (.int 1), .call 7 [.var 0, .var 1, .lit (.int 9)]]),
  .asg (.one 3) (.tup [.tup [.tup [.lit (.int 0), .lit (.int 0)]], .tup [.tup [.lit (.int 1), .lit (.int 0)]]]),
  .new 4 (.lst [.lit .none, .lit (.int 5), .tup [], .tup [.tup []], .lst [.tup [.var 2]], .tup [.tup [.var 2], .tup [.var 2, .var 2]], .tup [.tup [.var 2, .var 2], .lst [.var 2, .var 2]], .tup [.tup [.lit (.int 10)]], .tup [.tup [.prim .neg [.lit (.int 1)]]], .tup [.tup [.lit (.bool true)]]]),
  .forS (.one 5) (.seq (.prim .add [.var 4, .lst [.tup [.tup [.lit (.str "1")]], .tup [.var 2], .tup [.prim .mul [.tup [.var 2], .lit (.int 7)]], .prim .mul [.tup [.tup [.var 2]], .lit (.int 7)], .tup [.tup [.lit .none]]]])) [.ite (.orE (.prim .isnot [.call 1 [.var 5], .lit (.bool false)]) (.prim .ne [.lc (.call 121 [.var 8, .var 5, .lit .none]) (.one 8) (.rng [.lit (.int 6)]) [], .prim .mul [.lst [.tup [.lit (.str "raised"), .lit (.int 0)]], .lit (.int 6)]])) [.ret (.lit (.bool false))] [],
    .ite (.prim .ne [.lc (.call 119 [.var 8, .var 5, .var 3]) (.one 8) (.rng [.lit (.int 9)]) [], .prim .mul [.lst [.tup [.lit (.str "raised"), .lit (.int 0)]], .lit (.int 9)]]) [.ret (.lit (.bool false))] [],
    .ite (.prim .ne [.lc (.call 120 [.var 8, .var 5, .var 3, .lit .none]) (.one 8) (.rng [.lit (.int 6)]) [], .prim .mul [.lst [.tup [.lit (.str "raised"), .lit (.int 0)]], .lit (.int 6)]]) [.ret (.lit (.bool false))] []],
  .asg (.one 6) (.tup [.tup [.var 2, .var 2, .lit (.int 0)], .tup [.var 2, .var 2, .var 2]]),
  .new 4 (.lst [.lit .none, .lit (.int 5), .tup [], .tup [.tup [], .tup []], .lst [.tup [.tup [.lit (.int 0), .lit (.int 0)]], .tup [.tup [.lit (.int 1), .lit (.int 0)]]], .tup [.tup [.tup [.lit (.int 0), .lit (.int 0)]]], .tup [.tup [.tup [.lit (.int 0), .lit (.int 0)]], .tup [.tup [.lit (.int 1), .lit (.int 0)]], .tup []]]),
  .ext 4 (.lst [.tup [.tup [.tup [.lit (.int 0), .lit (.int 0)]], .tup [.tup [.lit (.int 2), .lit (.int 0)]]], .tup [.tup [.tup [.lit (.int 0), .lit (.int 0)]], .tup [.tup [.lit (.int 1), .lit (.int 0)], .tup [.lit (.int 1), .lit (.int 1)]]]]),
  .ext 4 (.lst [.tup [.tup [.tup [.lit (.int 3), .lit (.int 0)]], .tup [.tup [.lit (.int 1), .lit (.int 0)]]], .tup [.tup [.tup [.lit (.int 0), .lit (.int 0)], .tup [.lit (.int 0), .lit (.int 0)]], .tup [.tup [.lit (.int 1), .lit (.int 0)], .tup [.lit (.int 1), .lit (.int 1)]]], .tup [.tup [.tup [.lit (.int 0), .lit (.int 0)], .tup [.lit (.int 0), .lit (.int 1)]], .tup [.tup [.lit (.int 1), .lit (.int 0)]]]]),
  .ext 4 (.lst [.tup [.lst [.tup [.lit (.int 0), .lit (.int 0)]], .tup [.tup [.lit (.int 1), .lit (.int 0)]]], .tup [.tup [.tup [.lit (.int 0), .lit (.bool true)]], .tup [.tup [.lit (.int 1), .lit (.int 0)]]], .tup [.tup [.tup [.lit (.int 0), .lit (.str "0")]], .tup [.tup [.lit (.int 1), .lit (.int 0)]]], .tup [.tup [.tup [.lit (.int 0)]], .tup [.tup [.lit (.int 1), .lit (.int 0)]]]]),
  .ext 4 (.lst [.tup [.tup [.tup [.prim .neg [.lit (.int 1)], .lit (.int 0)]], .tup [.tup [.lit (.int 1), .lit (.int 0)]]], .tup [.tup [.tup [.lit (.int 0), .lit (.int 0)], .tup [.lit (.int 1), .lit (.int 0)], .tup [.lit (.int 0), .lit (.int 1)], .tup [.lit (.int 1), .lit (.int 1)]], .tup [.tup [.lit (.int 1), .lit (.int 1)], .tup [.lit (.int 0), .lit (.int 1)], .tup [.lit (.int 1), .lit (.int 0)], .tup [.lit (.int 0), .lit (.int 0)]]]]),
  .forS (.one 5) (.seq (.var 4)) [.ite (.prim .ne [.lc (.call 119 [.var 8, .var 6, .var 5]) (.one 8) (.rng [.lit (.int 9)]) [], .prim .mul [.lst [.tup [.lit (.str "raised"), .lit (.int 3)]], .lit (.int 9)]]) [.ret (.lit (.bool false))] [],
    .ite (.prim .ne [.lc (.call 120 [.var 8, .var 6, .var 5, .lit .none]) (.one 8) (.rng [.lit (.int 6)]) [], .prim .mul [.lst [.tup [.lit (.str "raised"), .lit (.int 3)]], .lit (.int 6)]]) [.ret (.lit (.bool false))] []],
  .asg (.one 7) (.prim .add [.prim .add [.prim .mul [.lst [.lit (.bool false)], .lit (.int 2)], .prim .mul [.lst [.tup [.lit (.str "raised"), .lit (.int 4)]], .lit (.int 2)]], .lst [.lit (.bool false), .tup [.lit (.str "raised"), .lit (.int 4)]]]),
  .ret (.prim .eq [.lc (.call 120 [.var 8, .var 6, .var 3, .lit .none]) (.one 8) (.rng [.lit (.int 6)]) [], .var 7])]
def row_law_k19 (i : Nat) : DRow := ⟨i, "law", 1, ["script", "town", "k", "good", "some", "bad", "own", "due", "what"], [(7, "_law_draw"), (121, "_law_plain"), (1, "is_grid"), (119, "_law_two"), (120, "_law_three")], b_law_k19⟩
def f_law_k19 : FnS := defR (lk [(7, f__law_draw), (121, f__law_plain), (1, f_is_grid), (119, f__law_two), (120, f__law_three)]) 1 9 b_law_k19
def b__law_two_k20 : List Sm :=
  [.ask 3 [.ret (.sel [21, 75, 76] (.var 0) [.var 1, .var 2])]]
def row__law_two_k20 (i : Nat) : DRow := ⟨i, "_law_two", 3, ["what", "own", "other", "e"], [(21, "weight"), (75, "topmost"), (76, "bottommost")], b__law_two_k20⟩
def f__law_two_k20 : FnS := defR (lk [(21, f_weight), (75, f_topmost), (76, f_bottommost)]) 3 4 b__law_two_k20
def b__law_three_k20 : List Sm :=
  [.ask 4 [.ret (.sel [19, 23, 47, 57] (.var 0) [.var 1, .var 2, .var 3])]]
def row__law_three_k20 (i : Nat) : DRow := ⟨i, "_law_three", 4, ["what", "own", "one", "other", "e"], [(19, "paths"), (23, "total"), (47, "permutation"), (57, "exchange")], b__law_three_k20⟩
def f__law_three_k20 : FnS := defR (lk [(19, f_paths), (23, f_total), (47, f_permutation), (57, f_exchange)]) 4 5 b__law_three_k20
def b__law_four : List Sm :=
  [.ask 4 [.ret (.call 71 [.var 0, .var 1, .var 2, .var 3])]]
def row__law_four (i : Nat) : DRow := ⟨i, "_law_four", 4, ["own", "lines", "one", "other", "e"], [(71, "upper_and_lower")], b__law_four⟩
def f__law_four : FnS := defR (lk [(71, f_upper_and_lower)]) 4 5 b__law_four
def b_law_k20 : List Sm :=
  [.new 1 (.lst []),
  .asg (.one 2) (.prim .add [.lit (.int 1), .call 7 [.var 0, .var 1, .lit (.int 9)]]),
  .asg (.one 3) (.tup [.tup [.var 2, .var 2, .lit (.int 0)], .tup [.var 2, .var 2, .var 2]]),
  .forS (.one 4) (.seq (.lst [.lit .none, .lit (.int 5), .tup [], .tup [.lit (.int 0)], .tup [.lit (.int 2), .lit (.int 0)], .tup [.lit (.int 3), .lit (.int 0)], .tup [.lit (.int 0), .lit (.int 2)], .lst [.lit (.int 0), .lit (.int 0)], .tup [.prim .neg [.lit (.int 1)], .lit (.int 0)], .tup [.lit (.int 0), .lit (.bool true)], .tup [.lit (.int 0), .lit (.str "0")], .tup [.lit (.int 0), .lit (.int 0), .lit (.int 0)], .tup [.lit (.int 7), .lit (.int 7)]])) [.ite (.prim .ne [.lc (.call 124 [.var 10, .var 3, .var 4, .tup [.lit (.int 0), .lit (.int 0)]]) (.one 10) (.seq (.tup [.lit (.int 0), .lit (.int 1)])) [], .prim .mul [.lst [.tup [.lit (.str "raised"), .lit (.int 1)]], .lit (.int 2)]]) [.ret (.lit (.bool false))] [],
    .ite (.prim .ne [.lc (.call 124 [.var 10, .var 3, .tup [.lit (.int 0), .lit (.int 0)], .var 4]) (.one 10) (.seq (.tup [.lit (.int 0), .lit (.int 1)])) [], .prim .mul [.lst [.tup [.lit (.str "raised"), .lit (.int 1)]], .lit (.int 2)]]) [.ret (.lit (.bool false))] []],
  .asg (.one 5) (.tup [.tup [.lit (.int 0), .lit (.int 0)], .tup [.lit (.int 1), .lit (.int 0)], .tup [.lit (.int 1), .lit (.int 1)]]),
  .new 6 (.lst [.lit .none, .tup [], .lst [.tup [.lit (.int 0), .lit (.int 0)]], .tup [.lit (.int 0), .lit (.int 0)], .prim .rev [.var 5], .prim .add [.prim (.slc false true) [.var 5, .lit (.int 1)], .prim (.slc true false) [.var 5, .lit (.int 2)]], .prim .add [.var 5, .tup [.tup [.lit (.int 2), .lit (.int 0)]]], .prim .add [.var 5, .tup [.lit .none]], .prim .mul [.prim (.slc false true) [.var 5, .lit (.int 1)], .lit (.int 2)]]),
  .forS (.one 4) (.seq (.prim .add [.var 6, .lst [.tup [.tup [.lit (.int 0), .lit (.int 0)], .tup [.lit (.int 1), .lit (.int 0)], .tup [.lit (.int 2), .lit (.int 0)]], .tup [.tup [.lit (.int 2), .lit (.int 0)]], .tup [.tup [.lit (.int 0), .lit (.int 0)], .tup [.lit (.int 0), .lit (.bool true)]]]])) [.ite (.prim .ne [.call 123 [.lit (.int 0), .var 3, .var 4], .tup [.lit (.str "raised"), .lit (.int 2)]]) [.ret (.lit (.bool false))] []],
  .asg (.one 7) (.tup [.tup [.tup [.lit (.int 1), .lit (.int 0)], .tup [.lit (.int 0), .lit (.int 1)]], .tup [.tup [.lit (.int 1), .lit (.int 1)], .tup [.lit (.int 0), .lit (.int 1)]]]),
  .asg (.one 8) (.tup [.tup [.tup [.lit (.int 1), .lit (.int 0)], .tup [.lit (.int 1), .lit (.int 1)]], .tup [.tup [.lit (.int 0), .lit (.int 1)]]]),
  .new 6 (.lst [.lit .none, .tup [], .prim .listOf [.var 8], .prim (.slc false true) [.var 8, .lit (.int 1)], .prim .rev [.var 8], .prim .add [.var 8, .prim (.slc false true) [.var 8, .lit (.int 1)]], .tup [.prim .idx [.var 8, .lit (.int 0)], .lit .none]]),
  .app 6 (.tup [.prim .idx [.var 8, .lit (.int 0)], .tup [.tup [.lit (.int 0), .lit (.int 1)], .tup [.lit (.int 1), .lit (.int 1)]]]),
  .forS (.one 4) (.seq (.var 6)) [.ite (.prim .ne [.lc (.call 124 [.var 10, .var 3, .var 7, .var 4]) (.one 10) (.seq (.tup [.lit (.int 2), .lit (.int 3)])) [], .prim .mul [.lst [.tup [.lit (.str "raised"), .lit (.int 4)]], .lit (.int 2)]]) [.ret (.lit (.bool false))] [],
    .ite (.orE (.prim .ne [.call 125 [.var 3, .var 7, .var 4, .var 8], .tup [.lit (.str "raised"), .lit (.int 4)]]) (.prim .ne [.call 125 [.var 3, .var 7, .var 8, .var 4], .tup [.lit (.str "raised"), .lit (.int 4)]])) [.ret (.lit (.bool false))] []],
  .ite (.orE (.prim .ne [.call 124 [.lit (.int 2), .var 3, .var 7, .var 8], .tup [.lit (.int 0), .lit (.int 1)]]) (.prim .ne [.call 124 [.lit (.int 3), .var 3, .var 7, .var 8], .tup [.lit (.str "raised"), .lit (.int 9)]])) [.ret (.lit (.bool false))] [],
  .asg (.one 9) (.tup [.prim .idx [.var 7, .lit (.int 0)], .prim .rev [.prim .idx [.var 7, .lit (.int 1)]]]),
  .ite (.orE (.prim .ne [.call 124 [.lit (.int 2), .var 3, .var 9, .var 8], .tup [.lit (.int 1), .lit (.int 0)]]) (.prim .ne [.call 125 [.var 3, .var 9, .var 8, .var 8], .tup [.lit (.str "raised"), .lit (.int 4)]])) [.ret (.lit (.bool false))] [],
  .ite (.prim .ne [.lc (.call 123 [.var 10, .var 3, .var 9]) (.one 10) (.seq (.tup [.lit (.int 1), .lit (.int 2)])) [], .prim .mul [.lst [.tup [.lit (.str "raised"), .lit (.int 8)]], .lit (.int 2)]]) [.ret (.lit (.bool false))] [],
  .ret (.prim .eq [.lc (.call 123 [.var 10, .var 3, .tup [.tup [.tup [.lit (.int 0), .lit (.int 1)]], .tup [.tup [.lit (.int 1), .lit (.int 0)]]]]) (.one 10) (.seq (.tup [.lit (.int 1), .lit (.int 2)])) [], .prim .mul [.lst [.tup [.lit (.str "raised"), .lit (.int 10)]], .lit (.int 2)]])]
def row_law_k20 (i : Nat) : DRow := ⟨i, "law", 1, ["script", "town", "k", "own", "off", "road", "odds", "lines", "system", "turned", "what"], [(7, "_law_draw"), (124, "_law_three"), (123, "_law_two"), (125, "_law_four")], b_law_k20⟩
def f_law_k20 : FnS := defR (lk [(7, f__law_draw), (124, f__law_three_k20), (123, f__law_two_k20), (125, f__law_four)]) 1 11 b_law_k20
def b__law_pile : List Sm :=
  [.ask 5 [.ret (.ite (.prim .eq [.var 0, .lit (.int 0)]) (.call 88 [.var 1, .var 2, .var 3]) (.sel [90, 94, 96] (.prim .sub [.var 0, .lit (.int 1)]) [.var 1, .var 2, .var 3, .var 4]))]]
def row__law_pile (i : Nat) : DRow := ⟨i, "_law_pile", 5, ["what", "a", "b", "c", "own", "e"], [(88, "count_piles"), (90, "is_pile"), (94, "system_of"), (96, "pile_of")], b__law_pile⟩
def f__law_pile : FnS := defR (lk [(88, f_count_piles), (90, f_is_pile), (94, f_system_of), (96, f_pile_of)]) 5 6 b__law_pile
def b__law_step : List Sm :=
  [.ask 3 [.ret (.meth 907 0 [.var 1, .var 2])]]
def row__law_step (i : Nat) : DRow := ⟨i, "_law_step", 3, ["r", "number", "way", "e"], [], b__law_step⟩
def f__law_step : FnS := defR (lk [(907, f_R_step)]) 3 4 b__law_step
def b__law_steps_refused : List Sm :=
  [.asg (.one 1) (.tup [.tup [.var 0, .var 0, .lit (.int 0)], .tup [.var 0, .var 0, .var 0]]),
  .mkS 2 [.var 1, .tup [.tup [.tup [.lit (.int 0), .lit (.int 0)], .tup [.lit (.int 0), .lit (.int 1)]], .tup [.tup [.lit (.int 2), .lit (.int 1)], .tup [.lit (.int 1), .lit (.int 1)]]]],
  .forS (.one 3) (.seq (.lst [.lit .none, .prim .neg [.lit (.int 1)], .lit (.int 2), .lit (.str "0"), .lit (.bool true), .tup [.lit (.int 0)]])) [.ite (.orE (.prim .ne [.call 128 [.var 2, .var 3, .lit (.str "R")], .tup [.lit (.str "raised"), .lit (.int 5)]]) (.orE (.prim .ne [.call 128 [.var 2, .var 3, .lit .none], .tup [.lit (.str "raised"), .lit (.int 5)]]) (.prim .ne [.rlen 901 2, .lit (.int 0)]))) [.ret (.lit (.bool false))] []],
  .forS (.one 3) (.seq (.lst [.lit .none, .lit (.str ""), .lit (.str "r"), .lit (.str "RU"), .lit (.str "D"), .tup [.lit (.str "R")], .lst [.lit (.str "R")], .lit (.int 0), .lit (.str "L")])) [.ite (.orE (.prim .ne [.call 128 [.var 2, .lit (.int 0), .var 3], .tup [.lit (.str "raised"), .lit (.int 7)]]) (.prim .ne [.rstr 902 2, .lit (.str "/")])) [.ret (.lit (.bool false))] []],
  .ite (.orE (.prim .ne [.call 128 [.var 2, .lit (.int 0), .lit (.str "U")], .tup [.lit (.str "raised"), .lit (.int 7)]]) (.orE (.prim .ne [.call 128 [.var 2, .lit (.int 1), .lit (.str "U")], .tup [.lit (.str "raised"), .lit (.int 7)]]) (.prim .ne [.call 128 [.var 2, .lit (.int 0), .lit (.str "R")], .tup [.lit (.int 1), .lit (.int 0)]]))) [.ret (.lit (.bool false))] [],
  .ite (.orE (.prim .ne [.call 128 [.var 2, .lit (.int 0), .lit (.str "R")], .tup [.lit (.str "raised"), .lit (.int 7)]]) (.orE (.prim .ne [.call 128 [.var 2, .lit (.int 0), .lit (.str "U")], .tup [.lit (.int 1), .lit (.int 1)]]) (.prim .ne [.call 128 [.var 2, .lit (.int 1), .lit (.str "R")], .tup [.lit (.str "raised"), .lit (.int 7)]]))) [.ret (.lit (.bool false))] [],
  .ite (.orE (.prim .ne [.rstr 902 2, .lit (.str "RU/")]) (.orE (.prim .isnot [.meth 912 2 [], .lit (.bool false)]) (.prim .ne [.rlen 901 2, .lit (.int 2)]))) [.ret (.lit (.bool false))] [],
  .ret (.andE (.prim .eq [.meth 913 2 [], .lit (.int 0)]) (.prim .eq [.call 128 [.var 2, .lit (.int 1), .lit (.str "R")], .tup [.lit (.int 1), .lit (.int 1)]]))]
def row__law_steps_refused (i : Nat) : DRow := ⟨i, "_law_steps_refused", 1, ["k", "own", "r", "off"], [(128, "_law_step")], b__law_steps_refused⟩
def f__law_steps_refused : FnS := defR (lk [(128, f__law_step), (901, f_R___len__), (902, f_R___str__), (912, f_R_can_finish), (913, f_R_undo), (900, f_R_init)]) 1 4 b__law_steps_refused
def b_law_k21 : List Sm :=
  [.new 1 (.lst []),
  .asg (.one 2) (.prim .add [.lit (.int 1), .call 7 [.var 0, .var 1, .lit (.int 9)]]),
  .forS (.one 3) (.seq (.lst [.lit .none, .lit (.int 0), .lit (.int 4), .prim .neg [.lit (.int 1)], .lit (.str "1"), .lit (.bool true), .tup [.lit (.int 1)]])) [.ite (.prim .ne [.lc (.call 127 [.var 7, .var 3, .lit (.int 1), .lit (.int 1), .lit .none]) (.one 7) (.rng [.lit (.int 4)]) [], .prim .mul [.lst [.tup [.lit (.str "raised"), .lit (.int 5)]], .lit (.int 4)]]) [.ret (.lit (.bool false))] [],
    .ite (.prim .ne [.lc (.call 127 [.var 7, .lit (.int 1), .var 3, .lit (.int 1), .lit .none]) (.one 7) (.rng [.lit (.int 4)]) [], .prim .mul [.lst [.tup [.lit (.str "raised"), .lit (.int 5)]], .lit (.int 4)]]) [.ret (.lit (.bool false))] [],
    .ite (.prim .ne [.lc (.call 127 [.var 7, .lit (.int 1), .lit (.int 1), .var 3, .lit .none]) (.one 7) (.rng [.lit (.int 4)]) [], .prim .mul [.lst [.tup [.lit (.str "raised"), .lit (.int 5)]], .lit (.int 4)]]) [.ret (.lit (.bool false))] []],
  .asg (.one 4) (.lst [.lit .none, .tup [], .tup [.tup [.lit (.int 1), .lit (.int 0)]], .tup [.tup [.lit (.int 1), .lit (.int 0)], .tup [.lit (.int 1)]], .lst [.tup [.lit (.int 1), .lit (.int 0)], .tup [.lit (.int 1), .lit (.int 0)]], .tup [.tup [.lit (.int 1), .lit (.int 0)], .lst [.lit (.int 1), .lit (.int 0)]], .tup [.tup [.lit (.int 1), .lit (.int 0)], .tup [.lit (.int 2), .lit (.int 0)]], .tup [.tup [.lit (.int 0), .lit (.int 1)], .tup [.lit (.int 0), .lit (.int 0)]]]),
  .forS (.one 3) (.seq (.prim .add [.var 4, .lst [.tup [.tup [.lit (.int 4), .lit (.int 0)], .tup [.lit (.int 1), .lit (.int 0)]], .tup [.tup [.prim .neg [.lit (.int 1)], .prim .neg [.lit (.int 1)]], .tup [.prim .neg [.lit (.int 1)], .prim .neg [.lit (.int 1)]]], .tup [.tup [.lit (.bool true), .lit (.int 0)], .tup [.lit (.int 0), .lit (.int 0)]], .tup [.tup [.lit (.str "1"), .lit (.int 0)], .tup [.lit (.int 0), .lit (.int 0)]]]])) [.ite (.orE (.prim .isnot [.call 127 [.lit (.int 1), .lit (.int 2), .lit (.int 2), .lit (.int 3), .var 3], .lit (.bool false)]) (.prim .ne [.call 127 [.lit (.int 2), .lit (.int 2), .lit (.int 2), .lit (.int 3), .var 3], .tup [.lit (.str "raised"), .lit (.int 6)]])) [.ret (.lit (.bool false))] []],
  .asg (.one 5) (.call 127 [.lit (.int 2), .lit (.int 2), .lit (.int 1), .lit (.int 1), .tup [.tup [.lit (.int 1)], .tup [.lit (.int 0)]]]),
  .ite (.orE (.prim .ne [.var 5, .tup [.tup [.tup [.lit (.int 1), .lit (.int 0)], .tup [.lit (.int 2), .lit (.int 0)], .tup [.lit (.int 2), .lit (.int 1)]], .tup [.tup [.lit (.int 0), .lit (.int 1)], .tup [.lit (.int 0), .lit (.int 2)], .tup [.lit (.int 1), .lit (.int 2)]]]]) (.prim .ne [.call 127 [.lit (.int 3), .lit (.int 2), .lit (.int 1), .lit (.int 1), .var 5], .tup [.tup [.lit (.int 1)], .tup [.lit (.int 0)]]])) [.ret (.lit (.bool false))] [],
  .asg (.one 6) (.tup [.tup [.tup [.lit (.int 1), .lit (.int 0)], .tup [.lit (.int 1), .lit (.int 1)], .tup [.lit (.int 2), .lit (.int 1)]], .tup [.tup [.lit (.int 0), .lit (.int 1)], .tup [.lit (.int 1), .lit (.int 1)], .tup [.lit (.int 1), .lit (.int 2)]]]),
  .asg (.one 4) (.lst [.lit .none, .tup [], .prim .listOf [.var 5], .prim (.slc false true) [.var 5, .lit (.int 1)], .prim .rev [.var 5], .prim .add [.var 5, .prim (.slc false true) [.var 5, .lit (.int 1)]], .var 6, .tup [.prim .idx [.var 5, .lit (.int 0)], .prim (.slc false true) [.prim .idx [.var 5, .lit (.int 1)], .lit (.int 2)]]]),
  .forS (.one 3) (.seq (.prim .add [.var 4, .lst [.tup [.prim .idx [.var 5, .lit (.int 0)], .lit .none]]])) [.ite (.prim .ne [.call 127 [.lit (.int 3), .lit (.int 2), .lit (.int 1), .lit (.int 1), .var 3], .tup [.lit (.str "raised"), .lit (.int 4)]]) [.ret (.lit (.bool false))] []],
  .ret (.call 129 [.var 2])]
def row_law_k21 (i : Nat) : DRow := ⟨i, "law", 1, ["script", "town", "k", "off", "odds", "good", "bad", "what"], [(7, "_law_draw"), (127, "_law_pile"), (129, "_law_steps_refused")], b_law_k21⟩
def f_law_k21 : FnS := defR (lk [(7, f__law_draw), (127, f__law_pile), (129, f__law_steps_refused)]) 1 8 b_law_k21
def b_check_apart : List Sm :=
  [.exp (.call 42 [.var 0, .var 1, .var 2]),
  .ite (.orE (.notE (.call 67 [.var 1, .var 2])) (.notE (.call 44 [.var 2]))) [.raise 5] []]
def row_check_apart (i : Nat) : DRow := ⟨i, "check_apart", 3, ["grid", "lines", "system"], [(42, "check_system"), (44, "keeps_apart"), (67, "is_straight")], b_check_apart⟩
def f_check_apart : FnS := defR (lk [(42, f_check_system), (44, f_keeps_apart), (67, f_is_straight)]) 3 3 b_check_apart
def b_flip_list : List Sm :=
  [.par 2 3 false true (.call 43 [.var 1]) (.lst []),
  .forS (.many [4, 5]) (.enum (.var 1)) [.forS (.one 6) (.rng [.lit (.int 1), .prim .sub [.prim .len [.var 5], .lit (.int 1)]]) [.par3 8 9 10 (.prim .idx [.var 5, .prim .sub [.var 6, .lit (.int 1)]]) (.prim .idx [.var 5, .var 6]) (.prim .idx [.var 5, .prim .add [.var 6, .lit (.int 1)]]),
      .asg (.one 7) (.tup [.prim .sub [.prim .add [.prim .idx [.var 8, .lit (.int 0)], .prim .idx [.var 10, .lit (.int 0)]], .prim .idx [.var 9, .lit (.int 0)]], .prim .sub [.prim .add [.prim .idx [.var 8, .lit (.int 1)], .prim .idx [.var 10, .lit (.int 1)]], .prim .idx [.var 9, .lit (.int 1)]]]),
      .ite (.andE (.prim .gt [.call 12 [.var 0, .var 7], .lit (.int 0)]) (.prim .notin [.var 7, .var 2])) [.asg (.one 11) (.prim .add [.prim .add [.prim (.slc false true) [.var 5, .var 6], .tup [.var 7]], .prim (.slc true false) [.var 5, .prim .add [.var 6, .lit (.int 1)]]]),
        .app 3 (.prim .add [.prim .add [.prim (.slc false true) [.var 1, .var 4], .tup [.var 11]], .prim (.slc true false) [.var 1, .prim .add [.var 4, .lit (.int 1)]]])] []]],
  .ret (.prim .sorted [.var 3])]
def row_flip_list (i : Nat) : DRow := ⟨i, "flip_list", 2, ["grid", "system", "taken", "result", "number", "path", "at", "other", "before", "point", "behind", "turned"], [(43, "points_of"), (12, "weight_at")], b_flip_list⟩
def f_flip_list : FnS := defR (lk [(43, f_points_of), (12, f_weight_at)]) 2 12 b_flip_list
def b_flips : List Sm :=
  [.exp (.call 131 [.var 0, .var 1, .var 2]),
  .ret (.call 132 [.var 0, .var 2])]
def row_flips (i : Nat) : DRow := ⟨i, "flips", 3, ["grid", "lines", "system"], [(131, "check_apart"), (132, "flip_list")], b_flips⟩
def f_flips : FnS := defR (lk [(131, f_check_apart), (132, f_flip_list)]) 3 3 b_flips
def b_area_between : List Sm :=
  [.asg (.one 2) (.lit (.int 0)),
  .forS (.many [3, 4]) (.zip [.var 0, .var 1]) [.aug .addI 2 (.prim .sum [.lc (.prim .max2 [.prim .sub [.prim .idx [.var 5, .lit (.int 1)], .prim .idx [.var 6, .lit (.int 1)]], .prim .sub [.prim .idx [.var 6, .lit (.int 1)], .prim .idx [.var 5, .lit (.int 1)]]]) (.many [5, 6]) (.zip [.var 3, .var 4]) []])],
  .ret (.var 2)]
def row_area_between (i : Nat) : DRow := ⟨i, "area_between", 2, ["one", "other", "result", "first", "second", "p", "q"], [], b_area_between⟩
def f_area_between : FnS := defR (lk []) 2 7 b_area_between
def b_area : List Sm :=
  [.exp (.call 131 [.var 0, .var 1, .var 2]),
  .exp (.call 131 [.var 0, .var 1, .var 3]),
  .ret (.call 134 [.var 2, .var 3])]
def row_area (i : Nat) : DRow := ⟨i, "area", 4, ["grid", "lines", "one", "other"], [(131, "check_apart"), (134, "area_between")], b_area⟩
def f_area : FnS := defR (lk [(131, f_check_apart), (134, f_area_between)]) 4 4 b_area
def b_flip_road : List Sm :=
  [.exp (.call 131 [.var 0, .var 1, .var 2]),
  .exp (.call 131 [.var 0, .var 1, .var 3]),
  .exp (.call 73 [.var 0, .var 1]),
  .ite (.prim .any [.lc (.prim .eq [.prim .minl [.var 5], .lit (.int 0)]) (.one 5) (.seq (.var 0)) []]) [.raise 16] [],
  .new 4 (.lst [.var 2]),
  .whl 100000 (.prim .ne [.prim .idx [.var 4, .prim .neg [.lit (.int 1)]], .var 3]) [.app 4 (.prim .idx [.prim .minl [.lc (.tup [.call 134 [.var 6, .var 3], .var 6]) (.one 6) (.seq (.call 132 [.var 0, .prim .idx [.var 4, .prim .neg [.lit (.int 1)]]])) []], .lit (.int 1)])],
  .ret (.var 4)]
def row_flip_road (i : Nat) : DRow := ⟨i, "flip_road", 4, ["grid", "lines", "one", "other", "road", "row", "some"], [(131, "check_apart"), (73, "check_aligned"), (134, "area_between"), (132, "flip_list")], b_flip_road⟩
def f_flip_road : FnS := defR (lk [(131, f_check_apart), (73, f_check_aligned), (134, f_area_between), (132, f_flip_list)]) 4 7 b_flip_road
def b__law_ask_k22 : List Sm :=
  [.askO 4 [.ret (.call 136 [.var 0, .var 1, .var 2, .var 3])]]
def row__law_ask_k22 (i : Nat) : DRow := ⟨i, "_law_ask", 4, ["own", "lines", "one", "other", "e"], [(136, "flip_road")], b__law_ask_k22⟩
def f__law_ask_k22 : FnS := defR (lk [(136, f_flip_road)]) 4 5 b__law_ask_k22
def b__law_flips : List Sm :=
  [.ask 3 [.ret (.call 133 [.var 0, .var 1, .var 2])]]
def row__law_flips (i : Nat) : DRow := ⟨i, "_law_flips", 3, ["own", "lines", "system", "e"], [(133, "flips")], b__law_flips⟩
def f__law_flips : FnS := defR (lk [(133, f_flips)]) 3 4 b__law_flips
def b__law_area : List Sm :=
  [.new 2 (.lst []),
  .forS (.many [3, 4]) (.zip [.var 0, .var 1]) [.ext 2 (.lc (.prim .max2 [.prim .sub [.prim .idx [.var 5, .lit (.int 1)], .prim .idx [.var 6, .lit (.int 1)]], .prim .sub [.prim .idx [.var 6, .lit (.int 1)], .prim .idx [.var 5, .lit (.int 1)]]]) (.many [5, 6]) (.zip [.var 3, .var 4]) [])],
  .ret (.prim .sum [.var 2])]
def row__law_area (i : Nat) : DRow := ⟨i, "_law_area", 2, ["one", "other", "steps", "road", "far", "p", "q"], [], b__law_area⟩
def f__law_area : FnS := defR (lk []) 2 7 b__law_area
def b__law_differ : List Sm :=
  [.new 2 (.lst []),
  .forS (.many [3, 4]) (.zip [.var 0, .var 1]) [.ext 2 (.lc (.var 5) (.many [5, 6]) (.zip [.var 3, .var 4]) [.prim .ne [.var 5, .var 6]])],
  .ret (.prim .len [.var 2])]
def row__law_differ (i : Nat) : DRow := ⟨i, "_law_differ", 2, ["one", "other", "places", "road", "far", "p", "q"], [], b__law_differ⟩
def f__law_differ : FnS := defR (lk []) 2 7 b__law_differ
def b__law_setting : List Sm :=
  [.asg (.one 2) (.call 25 [.var 0, .var 1, .lit (.int 5)]),
  .ite (.prim .gt [.call 7 [.var 0, .var 1, .lit (.int 3)], .lit (.int 0)]) [.par 6 7 false false (.prim .add [.lit (.int 3), .call 7 [.var 0, .var 1, .lit (.int 2)]]) (.prim .add [.lit (.int 3), .call 7 [.var 0, .var 1, .lit (.int 2)]]),
    .asg (.one 2) (.prim .mul [.tup [.prim .mul [.tup [.prim .add [.lit (.int 1), .call 7 [.var 0, .var 1, .lit (.int 9)]]], .var 6]], .var 7])] [],
  .asg (.one 3) (.call 36 [.var 0, .var 1, .var 2, .prim .gt [.call 7 [.var 0, .var 1, .lit (.int 6)], .lit (.int 0)]]),
  .ite (.andE (.prim .gt [.prim .len [.var 2], .lit (.int 2)]) (.andE (.prim .gt [.prim .len [.prim .idx [.var 2, .lit (.int 0)]], .lit (.int 2)]) (.andE (.prim .gt [.prim .minl [.lc (.prim .minl [.var 8]) (.one 8) (.seq (.var 2)) []], .lit (.int 0)]) (.prim .gt [.call 7 [.var 0, .var 1, .lit (.int 3)], .lit (.int 0)])))) [.asg (.one 4) (.tup [.tup [.prim .sub [.prim .len [.prim .idx [.var 2, .lit (.int 0)]], .lit (.int 1)], .prim .sub [.prim .len [.var 2], .lit (.int 2)]], .tup [.prim .sub [.prim .len [.prim .idx [.var 2, .lit (.int 0)]], .lit (.int 2)], .prim .sub [.prim .len [.var 2], .lit (.int 1)]]]),
    .asg (.one 5) (.prim .add [.lit (.int 1), .call 7 [.var 0, .var 1, .lit (.int 2)]]),
    .asg (.one 3) (.tup [.prim (.slc false true) [.tup [.tup [.lit (.int 1), .lit (.int 0)], .tup [.lit (.int 0), .lit (.int 1)]], .var 5], .prim (.slc false true) [.var 4, .var 5]])] [],
  .ret (.tup [.var 2, .var 3])]
def row__law_setting (i : Nat) : DRow := ⟨i, "_law_setting", 2, ["script", "town", "own", "lines", "far", "count", "wide", "high", "row"], [(25, "_law_opened"), (7, "_law_draw"), (36, "_law_some_lines")], b__law_setting⟩
def f__law_setting : FnS := defR (lk [(25, f__law_opened), (7, f__law_draw), (36, f__law_some_lines)]) 2 9 b__law_setting
def b_law_k22 : List Sm :=
  [.new 1 (.lst []),
  .asg (.many [7, 8]) (.call 141 [.var 0, .var 1]),
  .asg (.one 2) (.call 53 [.var 0, .var 1, .var 7, .var 8, .prim .rngL [.prim .len [.prim .idx [.var 8, .lit (.int 0)]]]]),
  .asg (.one 3) (.prim .sumL [.lc (.prim .listOf [.var 12]) (.one 12) (.seq (.var 2)) [.prim .isnot [.var 12, .lit .none]]]),
  .ite (.andE (.prim .notin [.lit .none, .var 2]) (.prim .lt [.prim .nset [.var 3], .prim .len [.var 3]])) [.ite (.prim .ne [.lst [.call 138 [.var 7, .var 8, .prim .tupOf [.var 2]], .call 137 [.var 7, .var 8, .prim .tupOf [.var 2], .lit .none]], .prim .mul [.lst [.tup [.lit (.str "raised"), .lit (.int 4)]], .lit (.int 2)]]) [.ret (.lit (.bool false))] []] [],
  .asg (.one 4) (.call 51 [.var 7, .var 8]),
  .ite (.prim .eq [.var 4, .lst []]) [.ret (.lit (.bool true))] [],
  .asg (.many [9, 10]) (.tup [.call 8 [.var 0, .var 1, .var 4], .call 8 [.var 0, .var 1, .var 4]]),
  .ite (.prim .ne [.call 133 [.var 7, .var 8, .var 9], .lc (.var 5) (.one 5) (.seq (.var 4)) [.prim .eq [.call 140 [.var 9, .var 5], .lit (.int 1)]]]) [.ret (.lit (.bool false))] [],
  .ite (.notE (.call 24 [.call 135 [.var 7, .var 8, .var 9, .var 10], .call 139 [.var 9, .var 10]])) [.ret (.lit (.bool false))] [],
  .forS (.one 5) (.seq (.prim (.slc false true) [.call 133 [.var 7, .var 8, .var 9], .lit (.int 3)])) [.asg (.one 11) (.prim .sub [.call 135 [.var 7, .var 8, .var 5, .var 10], .call 139 [.var 9, .var 10]]),
    .ite (.andE (.prim .ne [.var 11, .lit (.int 1)]) (.prim .ne [.var 11, .prim .neg [.lit (.int 1)]])) [.ret (.lit (.bool false))] []],
  .asg (.one 6) (.call 137 [.var 7, .var 8, .var 9, .var 10]),
  .ite (.notE (.call 64 [.var 8])) [.ret (.prim .eq [.var 6, .tup [.lit (.str "raised"), .lit (.int 8)]])] [],
  .ite (.prim .eq [.prim .minl [.lc (.prim .minl [.var 14]) (.one 14) (.seq (.var 7)) []], .lit (.int 0)]) [.ret (.prim .eq [.var 6, .tup [.lit (.str "raised"), .lit (.int 15)]])] [],
  .ite (.orE (.notE (.prim (.isi .list) [.var 6])) (.orE (.prim .ne [.prim .len [.var 6], .prim .add [.lit (.int 1), .call 139 [.var 9, .var 10]]]) (.orE (.prim .ne [.prim .idx [.var 6, .lit (.int 0)], .var 9]) (.prim .ne [.prim .idx [.var 6, .prim .neg [.lit (.int 1)]], .var 10])))) [.ret (.lit (.bool false))] [],
  .ite (.prim .ne [.lc (.var 13) (.one 13) (.seq (.var 6)) [.prim .notin [.var 13, .var 4]], .lst []]) [.ret (.lit (.bool false))] [],
  .ret (.prim .eq [.lc (.lit (.int 1)) (.many [5, 15]) (.zip [.var 6, .prim (.slc true false) [.var 6, .lit (.int 1)]]) [.prim .ne [.call 140 [.var 5, .var 15], .lit (.int 1)]], .lst []])]
def row_law_k22 (i : Nat) : DRow := ⟨i, "law", 1, ["script", "town", "roads", "points", "found", "some", "got", "own", "lines", "one", "other", "step", "road", "system", "row", "later"], [(141, "_law_setting"), (53, "_law_roads_of"), (138, "_law_flips"), (137, "_law_ask"), (51, "_law_straight_apart"), (8, "_law_pick"), (133, "flips"), (140, "_law_differ"), (24, "_law_same_number"), (135, "area"), (139, "_law_area"), (64, "_law_is_lined_up")], b_law_k22⟩
def f_law_k22 : FnS := defR (lk [(141, f__law_setting), (53, f__law_roads_of), (138, f__law_flips), (137, f__law_ask_k22), (51, f__law_straight_apart), (8, f__law_pick), (133, f_flips), (140, f__law_differ), (24, f__law_same_number), (135, f_area), (139, f__law_area), (64, f__law_is_lined_up)]) 1 16 b_law_k22
def b_closed_at : List Sm :=
  [.put2 2 0 1 3 1 0 0,
  .ret (.prim .tupOf [.lc (.prim .tupOf [.var 3]) (.one 3) (.seq (.var 2)) []])]
def row_closed_at (i : Nat) : DRow := ⟨i, "closed_at", 2, ["grid", "point", "rows", "row"], [], b_closed_at⟩
def f_closed_at : FnS := defR (lk []) 2 4 b_closed_at
def b_parts : List Sm :=
  [.exp (.call 31 [.var 0, .var 1]),
  .ite (.notE (.call 13 [.var 0, .var 2])) [.raise 2] [],
  .asg (.one 3) (.call 34 [.call 32 [.var 0, .var 1]]),
  .ite (.orE (.prim .inn [.var 2, .prim .idx [.var 1, .lit (.int 0)]]) (.prim .inn [.var 2, .prim .idx [.var 1, .lit (.int 1)]])) [.ret (.tup [.lit (.int 0), .var 3])] [],
  .asg (.one 4) (.call 34 [.call 32 [.call 143 [.var 0, .var 2], .var 1]]),
  .ret (.tup [.var 4, .prim .sub [.var 3, .var 4]])]
def row_parts (i : Nat) : DRow := ⟨i, "parts", 3, ["grid", "lines", "point", "whole", "without"], [(31, "check_lines"), (13, "is_open"), (34, "value_of"), (32, "rows_of"), (143, "closed_at")], b_parts⟩
def f_parts : FnS := defR (lk [(31, f_check_lines), (13, f_is_open), (34, f_value_of 12), (32, f_rows_of), (143, f_closed_at)]) 3 5 b_parts
def b__law_ask_k23 : List Sm :=
  [.ask 3 [.ret (.call 144 [.var 0, .var 1, .var 2])]]
def row__law_ask_k23 (i : Nat) : DRow := ⟨i, "_law_ask", 3, ["own", "lines", "point", "e"], [(144, "parts")], b__law_ask_k23⟩
def f__law_ask_k23 : FnS := defR (lk [(144, f_parts)]) 3 4 b__law_ask_k23
def b__law_weighed : List Sm :=
  [.new 3 (.lst []),
  .forS (.many [4, 5]) (.enum (.var 0)) [.app 3 (.prim .tupOf [.lc (.ite (.prim .eq [.tup [.var 6, .var 4], .var 1]) (.var 2) (.var 7)) (.many [6, 7]) (.enum (.var 5)) []])],
  .ret (.prim .tupOf [.var 3])]
def row__law_weighed (i : Nat) : DRow := ⟨i, "_law_weighed", 3, ["own", "point", "weight_here", "rows", "y", "row", "x", "entry"], [], b__law_weighed⟩
def f__law_weighed : FnS := defR (lk []) 3 8 b__law_weighed
def b_law_k23 : List Sm :=
  [.new 1 (.lst []),
  .asg (.one 2) (.call 25 [.var 0, .var 1, .lit (.int 4)]),
  .asg (.one 3) (.call 36 [.var 0, .var 1, .var 2, .prim .eq [.call 7 [.var 0, .var 1, .lit (.int 2)], .lit (.int 0)]]),
  .asg (.one 4) (.call 8 [.var 0, .var 1, .call 10 [.var 2]]),
  .asg (.many [8, 9]) (.tup [.lit (.int 0), .lit (.int 0)]),
  .forS (.many [10, 11]) (.seq (.call 38 [.prim .len [.prim .idx [.var 3, .lit (.int 0)]]])) [.asg (.one 12) (.lc (.tup [.var 17, .prim .idx [.prim .idx [.var 3, .lit (.int 1)], .var 18]]) (.many [17, 18]) (.zip [.prim .idx [.var 3, .lit (.int 0)], .var 10]) []),
    .ite (.prim .eq [.lc (.lit (.int 1)) (.many [17, 19]) (.seq (.var 12)) [.orE (.prim .gt [.prim .idx [.var 17, .lit (.int 0)], .prim .idx [.var 19, .lit (.int 0)]]) (.prim .gt [.prim .idx [.var 17, .lit (.int 1)], .prim .idx [.var 19, .lit (.int 1)]])], .lst []]) [.forS (.many [14, 15, 16]) (.seq (.call 37 [.var 2, .var 3, .lc (.prim .idx [.prim .idx [.var 3, .lit (.int 1)], .var 18]) (.one 18) (.seq (.var 10)) []])) [.aug .addI 8 (.ite (.prim .inn [.var 4, .var 16]) (.lit (.int 0)) (.prim .mul [.var 11, .var 15])),
        .aug .addI 9 (.ite (.prim .inn [.var 4, .var 16]) (.prim .mul [.var 11, .var 15]) (.lit (.int 0)))]] []],
  .ite (.orE (.prim .ne [.call 145 [.var 2, .var 3, .var 4], .tup [.var 8, .var 9]]) (.prim .ne [.prim .add [.var 8, .var 9], .call 35 [.var 2, .var 3]])) [.ret (.lit (.bool false))] [],
  .forS (.one 5) (.seq (.lst [.lit .none, .lit (.int 5), .tup [], .tup [.lit (.int 9), .lit (.int 9)], .lst [.lit (.int 0), .lit (.int 0)], .tup [.prim .idx [.var 4, .lit (.int 0)], .lit (.bool true)], .tup [.prim .idx [.var 4, .lit (.int 0)], .prim .idx [.var 4, .lit (.int 1)], .lit (.int 0)]])) [.ite (.prim .ne [.call 145 [.var 2, .var 3, .var 5], .tup [.lit (.str "raised"), .lit (.int 1)]]) [.ret (.lit (.bool false))] []],
  .ite (.prim .inn [.var 4, .prim .add [.prim .idx [.var 3, .lit (.int 0)], .prim .idx [.var 3, .lit (.int 1)]]]) [.ret (.prim .eq [.var 8, .lit (.int 0)])] [],
  .ite (.prim .ne [.call 35 [.call 146 [.var 2, .var 4, .lit (.int 0)], .var 3], .var 8]) [.ret (.lit (.bool false))] [],
  .ite (.prim .ne [.call 145 [.call 146 [.var 2, .var 4, .lit (.int 0)], .var 3, .var 4], .tup [.lit (.str "raised"), .lit (.int 1)]]) [.ret (.lit (.bool false))] [],
  .asg (.one 6) (.prim .idx [.prim .idx [.var 2, .prim .idx [.var 4, .lit (.int 1)]], .prim .idx [.var 4, .lit (.int 0)]]),
  .forS (.one 7) (.seq (.tup [.lit (.int 2), .lit (.int 3)])) [.ite (.prim .lt [.prim .mul [.var 6, .var 7], .lit (.int 10)]) [.asg (.one 13) (.call 146 [.var 2, .var 4, .prim .mul [.var 6, .var 7]]),
      .ite (.prim .ne [.call 145 [.var 13, .var 3, .var 4], .tup [.var 8, .prim .mul [.var 9, .var 7]]]) [.ret (.lit (.bool false))] []] []],
  .ret (.lit (.bool true))]
def row_law_k23 (i : Nat) : DRow := ⟨i, "law", 1, ["script", "town", "own", "lines", "point", "off", "here", "factor", "without", "along", "order", "sign", "roads", "changed", "some", "value", "used", "start", "to", "end"], [(25, "_law_opened"), (36, "_law_some_lines"), (7, "_law_draw"), (8, "_law_pick"), (10, "_law_spots"), (38, "_law_turns"), (37, "_law_together"), (35, "determinant"), (145, "_law_ask"), (146, "_law_weighed")], b_law_k23⟩
def f_law_k23 : FnS := defR (lk [(25, f__law_opened), (36, f__law_some_lines), (7, f__law_draw), (8, f__law_pick), (10, f__law_spots), (38, f__law_turns), (37, f__law_together), (35, f_determinant), (145, f__law_ask_k23), (146, f__law_weighed)]) 1 20 b_law_k23
end Ap

end
section
/-! the walk of k21 (printed by gen.py) -/
namespace K21
open PySem PySem.Spec PyProof.Rows L2 Ap
def lex : Lex := ⟨fnNames, clNames, ([("is_integer" : Str), ("is_grid" : Str), ("check_grid" : Str), ("_law_cell_at" : Str), ("_law_mixed" : Str), ("_law_draw" : Str), ("weight_at" : Str), ("is_open" : Str), ("after" : Str), ("valid_path" : Str), ("path_list" : Str), ("are_points" : Str), ("are_lines" : Str), ("check_lines" : Str), ("valid_system" : Str), ("points_of" : Str), ("keeps_apart" : Str), ("order_of" : Str), ("straight_systems" : Str), ("_law_which" : Str), ("is_straight" : Str), ("check_numbers" : Str), ("count_piles" : Str), ("valid_pile" : Str), ("is_pile" : Str), ("grid_for" : Str), ("lines_for" : Str), ("path_for" : Str), ("system_of" : Str), ("row_for" : Str), ("pile_of" : Str), ("_law_pile" : Str), ("_law_step" : Str), ("_law_steps_refused" : Str), ("law" : Str)] : List Str), [(0, "PathError"), (1, "InvalidGrid"), (2, "InvalidPoint"), (3, "InvalidPath"), (4, "InvalidLines"), (5, "InvalidSystem"), (6, "InvalidNumber"), (7, "InvalidPile"), (8, "InvalidStep"), (9, "NotAligned"), (10, "IsApart"), (11, "NoSystem"), (12, "TooMany"), (13, "Stuck"), (14, "NothingToUndo"), (15, "ParseError")], [("SIDE", 6)], [("WAYS", "RU")], ["Router"], [⟨("Router", some "__init__"), "__init__", "Router.__init__", defArgs st_R_init, defBody st_R_init, defScope st_R_init, [], []⟩, ⟨("Router", some "__len__"), "__len__", "Router.__len__", defArgs st_R___len__, defBody st_R___len__, defScope st_R___len__, [], []⟩, ⟨("Router", some "__str__"), "__str__", "Router.__str__", defArgs st_R___str__, defBody st_R___str__, defScope st_R___str__, [], []⟩, ⟨("Router", some "taken"), "taken", "Router.taken", defArgs st_R_taken, defBody st_R_taken, defScope st_R_taken, [], []⟩, ⟨("Router", some "free"), "free", "Router.free", defArgs st_R_free, defBody st_R_free, defScope st_R_free, [], []⟩, ⟨("Router", some "extended"), "extended", "Router.extended", defArgs st_R_extended, defBody st_R_extended, defScope st_R_extended, [], []⟩, ⟨("Router", some "step"), "step", "Router.step", defArgs st_R_step, defBody st_R_step, defScope st_R_step, [], []⟩, ⟨("Router", some "able"), "able", "Router.able", defArgs st_R_able, defBody st_R_able, defScope st_R_able, [], []⟩, ⟨("Router", some "can_finish"), "can_finish", "Router.can_finish", defArgs st_R_can_finish, defBody st_R_can_finish, defScope st_R_can_finish, [], []⟩, ⟨("Router", some "undo"), "undo", "Router.undo", defArgs st_R_undo, defBody st_R_undo, defScope st_R_undo, [], []⟩], rtFacts ["__len__", "__str__", "taken", "free", "extended", "step", "able", "can_finish", "undo"]⟩
def rows : List DRow := [row_is_integer 20, row_is_grid 21, row_check_grid 22, row__law_cell_at 54, row__law_mixed 55, row__law_draw 56, row_weight_at 23, row_is_open 24, row_after 25, row_valid_path 27, row_path_list 28, row_are_points 30, row_are_lines 31, row_check_lines 32, row_valid_system 33, row_points_of 34, row_keeps_apart 35, row_order_of 36, row_straight_systems 38, row__law_which 57, row_is_straight 37, row_check_numbers 40, row_count_piles 41, row_valid_pile 42, row_is_pile 43, row_grid_for 44, row_lines_for 45, row_path_for 46, row_system_of 47, row_row_for 48, row_pile_of 49, row__law_pile 58, row__law_step 59, row__law_steps_refused 60, row_law_k21 61]
theorem cls_ok : ∀ p ∈ lex.cls, lex.cn[p.1]? = some p.2 := by decide +kernel
theorem ok_is_integer : (row_is_integer 20).ok lex body = true := by decide +kernel
theorem ok_is_grid : (row_is_grid 21).ok lex body = true := by decide +kernel
theorem ok_check_grid : (row_check_grid 22).ok lex body = true := by decide +kernel
theorem ok__law_cell_at : (row__law_cell_at 54).ok lex body = true := by decide +kernel
theorem ok__law_mixed : (row__law_mixed 55).ok lex body = true := by decide +kernel
theorem ok__law_draw : (row__law_draw 56).ok lex body = true := by decide +kernel
theorem ok_weight_at : (row_weight_at 23).ok lex body = true := by decide +kernel
theorem ok_is_open : (row_is_open 24).ok lex body = true := by decide +kernel
theorem ok_after : (row_after 25).ok lex body = true := by decide +kernel
theorem ok_valid_path : (row_valid_path 27).ok lex body = true := by decide +kernel
theorem ok_path_list : (row_path_list 28).ok lex body = true := by decide +kernel
theorem ok_are_points : (row_are_points 30).ok lex body = true := by decide +kernel
theorem ok_are_lines : (row_are_lines 31).ok lex body = true := by decide +kernel
theorem ok_check_lines : (row_check_lines 32).ok lex body = true := by decide +kernel
theorem ok_valid_system : (row_valid_system 33).ok lex body = true := by decide +kernel
theorem ok_points_of : (row_points_of 34).ok lex body = true := by decide +kernel
theorem ok_keeps_apart : (row_keeps_apart 35).ok lex body = true := by decide +kernel
theorem ok_order_of : (row_order_of 36).ok lex body = true := by decide +kernel
theorem ok_straight_systems : (row_straight_systems 38).ok lex body = true := by decide +kernel
theorem ok__law_which : (fnScopeB ["e", "own"] ["e"] (defScope (atS body 57)) && isWhich (defBody (atS body 57)) && whichSc (defScope (atS body 57))) = true := by decide +kernel
theorem ok_is_straight : (row_is_straight 37).ok lex body = true := by decide +kernel
theorem ok_check_numbers : (row_check_numbers 40).ok lex body = true := by decide +kernel
theorem ok_count_piles : (row_count_piles 41).ok lex body = true := by decide +kernel
theorem ok_valid_pile : (row_valid_pile 42).ok lex body = true := by decide +kernel
theorem ok_is_pile : (row_is_pile 43).ok lex body = true := by decide +kernel
theorem ok_grid_for : (row_grid_for 44).ok lex body = true := by decide +kernel
theorem ok_lines_for : (row_lines_for 45).ok lex body = true := by decide +kernel
theorem ok_path_for : (row_path_for 46).ok lex body = true := by decide +kernel
theorem ok_system_of : (row_system_of 47).ok lex body = true := by decide +kernel
theorem ok_row_for : (row_row_for 48).ok lex body = true := by decide +kernel
theorem ok_pile_of : (row_pile_of 49).ok lex body = true := by decide +kernel
theorem ok__law_pile : (row__law_pile 58).okA lex body = true := by decide +kernel
theorem ok__law_step : (row__law_step 59).okR lex (atS body 59) true [(907, "step")] false = true := by decide +kernel
theorem ok__law_steps_refused : (row__law_steps_refused 60).okR lex (atS body 60) false [(901, "__len__"), (902, "__str__"), (912, "can_finish"), (913, "undo")] true = true := by decide +kernel
theorem ok_law_k21 : (row_law_k21 61).ok lex body = true := by decide +kernel
theorem ok_R_init : (fnScopeB row_R_init.N (row_R_init.N.take row_R_init.m) (defScope st_R_init) && chkIni (row_R_init.ckR lex false [] false) 200 (defScope st_R_init) i_R_e1 i_R_e3 (defBody st_R_init) && decide (row_R_init.m = 3 ∧ 3 ≤ row_R_init.N.length)) = true := by decide +kernel
theorem ok_R___len__ : (row_R___len__ 0).okR lex st_R___len__ false [] false = true := by decide +kernel
theorem ok_R___str__ : (row_R___str__ 0).okR lex st_R___str__ false [] false = true := by decide +kernel
theorem ok_R_taken : (row_R_taken 0).okR lex st_R_taken false [] false = true := by decide +kernel
theorem ok_R_free : (row_R_free 0).okR lex st_R_free false [(904, "taken")] false = true := by decide +kernel
theorem ok_R_extended : (row_R_extended 0).okR lex st_R_extended false [] false = true := by decide +kernel
theorem ok_R_step : (row_R_step 0).okR lex st_R_step false [(905, "free"), (906, "extended")] false = true := by decide +kernel
theorem ok_R_able : (row_R_able 0).okR lex st_R_able false [] false = true := by decide +kernel
theorem ok_R_can_finish : (row_R_can_finish 0).okR lex st_R_can_finish false [(910, "able")] false = true := by decide +kernel
theorem ok_R_undo : (row_R_undo 0).okR lex st_R_undo false [] false = true := by decide +kernel
section
variable {P : Program} {w : World} {K : PySem.W.Frag} {mg : Str → Option Value} {h : Heap}
theorem all_ok (Y : HdOk K h mg lex rows body) (wb0 : whichR K = true) : ∃ fd, (∀ (s : Shared) (u : Value), BindsTo s fd ⟨[u], []⟩ [("script", u)]) ∧ ∀ base : Heap, FnOk P w K mg base (L2N.CX P w) 80 (He.ga K "law") fd ["script"] (spOf K (lex.gx K).fa (lex.gx K).ca f_law_k21) := by
  have Z : RtY K mg lex := rty_ok Y (Bool.and_eq_true_iff.mp wb0).2 (ms := ["__len__", "__str__", "taken", "free", "extended", "step", "able", "can_finish", "undo"]) rfl (by decide) (by decide +kernel)
  obtain ⟨fd, hb, hF⟩ := DRow.last (P := P) (w := w) Y (k := 130) (n := 34) (r := row_law_k21 61) (x := "script") rfl rfl cls_ok ok_law_k21 (fun FD => FD.bindsA fun _ _ _ _ _ _ us hl => match us, hl with | [_], _ => rfl) (F := (lk [(7, f__law_draw), (127, f__law_pile), (129, f__law_steps_refused)])) (j := 79)
  refine ⟨fd, hb, fun base => ?_⟩
  have wb : whichB K = true := (Bool.and_eq_true_iff.mp wb0).1
  have ask : ∀ j : Nat, 1 ≤ j → ∀ X : Cx, X.prog = P → X.w = w → X.K = K → X.mg = mg → X.base = base → Room j X.A → AskX X (lex.gx K).ca := fun j hj => DRow.asks Y (n := 19) (r := row__law_which 57) rfl rfl (by decide) ok__law_which cls_ok (fun FD => FD.bindsN fun _ _ _ _ _ _ us hl => match us, hl with | [_], _ => rfl) (by decide +kernel) (by decide) (by decide +kernel) wb hj
  have g_is_integer : Ok P w K mg base lex 4 0 "is_integer" f_is_integer := DRow.step (P := P) (w := w) (base := base) Y (k := 0) (n := 0) (r := row_is_integer 20) rfl rfl (by decide) cls_ok ok_is_integer (fun FD => FD.bindsN fun _ _ _ _ _ _ us hl => match us, hl with | [_, _, _], _ => rfl) (F := (lk [])) (j := 3) ok_nil
  have g_is_grid : Ok P w K mg base lex 5 1 "is_grid" f_is_grid := DRow.step (P := P) (w := w) (base := base) Y (k := 1) (n := 1) (r := row_is_grid 21) rfl rfl (by decide) cls_ok ok_is_grid (fun FD => FD.bindsN fun _ _ _ _ _ _ us hl => match us, hl with | [_], _ => rfl) (F := (lk [(0, f_is_integer)])) (j := 4) (ok_cons (g_is_integer.mono (by decide)) ok_nil)
  have g_check_grid : Ok P w K mg base lex 6 2 "check_grid" f_check_grid := DRow.step (P := P) (w := w) (base := base) Y (k := 2) (n := 2) (r := row_check_grid 22) rfl rfl (by decide) cls_ok ok_check_grid (fun FD => FD.bindsN fun _ _ _ _ _ _ us hl => match us, hl with | [_], _ => rfl) (F := (lk [(1, f_is_grid)])) (j := 5) (ok_cons (g_is_grid.mono (by decide)) ok_nil)
  have g__law_cell_at : Ok P w K mg base lex 7 5 "_law_cell_at" f__law_cell_at := DRow.step (P := P) (w := w) (base := base) Y (k := 5) (n := 3) (r := row__law_cell_at 54) rfl rfl (by decide) cls_ok ok__law_cell_at (fun FD => FD.bindsN fun _ _ _ _ _ _ us hl => match us, hl with | [_, _], _ => rfl) (F := (lk [])) (j := 6) ok_nil
  have g__law_mixed : Ok P w K mg base lex 8 6 "_law_mixed" f__law_mixed := DRow.step (P := P) (w := w) (base := base) Y (k := 6) (n := 4) (r := row__law_mixed 55) rfl rfl (by decide) cls_ok ok__law_mixed (fun FD => FD.bindsN fun _ _ _ _ _ _ us hl => match us, hl with | [_, _, _], _ => rfl) (F := (lk [(5, f__law_cell_at)])) (j := 7) (ok_cons (g__law_cell_at.mono (by decide)) ok_nil)
  have g__law_draw : Ok P w K mg base lex 9 7 "_law_draw" f__law_draw := DRow.step (P := P) (w := w) (base := base) Y (k := 7) (n := 5) (r := row__law_draw 56) rfl rfl (by decide) cls_ok ok__law_draw (fun FD => FD.bindsN fun _ _ _ _ _ _ us hl => match us, hl with | [_, _, _], _ => rfl) (F := (lk [(6, f__law_mixed)])) (j := 8) (ok_cons (g__law_mixed.mono (by decide)) ok_nil)
  have g_weight_at : Ok P w K mg base lex 10 12 "weight_at" f_weight_at := DRow.step (P := P) (w := w) (base := base) Y (k := 12) (n := 6) (r := row_weight_at 23) rfl rfl (by decide) cls_ok ok_weight_at (fun FD => FD.bindsN fun _ _ _ _ _ _ us hl => match us, hl with | [_, _], _ => rfl) (F := (lk [])) (j := 9) ok_nil
  have g_is_open : Ok P w K mg base lex 11 13 "is_open" f_is_open := DRow.step (P := P) (w := w) (base := base) Y (k := 13) (n := 7) (r := row_is_open 24) rfl rfl (by decide) cls_ok ok_is_open (fun FD => FD.bindsN fun _ _ _ _ _ _ us hl => match us, hl with | [_, _], _ => rfl) (F := (lk [(0, f_is_integer), (12, f_weight_at)])) (j := 10) (ok_cons (g_is_integer.mono (by decide)) (ok_cons (g_weight_at.mono (by decide)) ok_nil))
  have g_after : Ok P w K mg base lex 12 14 "after" f_after := DRow.step (P := P) (w := w) (base := base) Y (k := 14) (n := 8) (r := row_after 25) rfl rfl (by decide) cls_ok ok_after (fun FD => FD.bindsN fun _ _ _ _ _ _ us hl => match us, hl with | [_], _ => rfl) (F := (lk [])) (j := 11) ok_nil
  have g_valid_path : Ok P w K mg base lex 13 15 "valid_path" f_valid_path := DRow.step (P := P) (w := w) (base := base) Y (k := 15) (n := 9) (r := row_valid_path 27) rfl rfl (by decide) cls_ok ok_valid_path (fun FD => FD.bindsN fun _ _ _ _ _ _ us hl => match us, hl with | [_, _], _ => rfl) (F := (lk [(13, f_is_open), (14, f_after)])) (j := 12) (ok_cons (g_is_open.mono (by decide)) (ok_cons (g_after.mono (by decide)) ok_nil))
  have g_path_list : Ok P w K mg base lex 14 17 "path_list" f_path_list := DRow.step (P := P) (w := w) (base := base) Y (k := 17) (n := 10) (r := row_path_list 28) rfl rfl (by decide) cls_ok ok_path_list (fun FD => FD.bindsN fun _ _ _ _ _ _ us hl => match us, hl with | [_, _, _, _], _ => rfl) (F := (lk [(14, f_after), (12, f_weight_at)])) (j := 13) (ok_cons (g_after.mono (by decide)) (ok_cons (g_weight_at.mono (by decide)) ok_nil))
  have g_are_points : Ok P w K mg base lex 15 29 "are_points" f_are_points := DRow.step (P := P) (w := w) (base := base) Y (k := 29) (n := 11) (r := row_are_points 30) rfl rfl (by decide) cls_ok ok_are_points (fun FD => FD.bindsN fun _ _ _ _ _ _ us hl => match us, hl with | [_, _], _ => rfl) (F := (lk [(13, f_is_open)])) (j := 14) (ok_cons (g_is_open.mono (by decide)) ok_nil)
  have g_are_lines : Ok P w K mg base lex 16 30 "are_lines" f_are_lines := DRow.step (P := P) (w := w) (base := base) Y (k := 30) (n := 12) (r := row_are_lines 31) rfl rfl (by decide) cls_ok ok_are_lines (fun FD => FD.bindsN fun _ _ _ _ _ _ us hl => match us, hl with | [_, _], _ => rfl) (F := (lk [(29, f_are_points)])) (j := 15) (ok_cons (g_are_points.mono (by decide)) ok_nil)
  have g_check_lines : Ok P w K mg base lex 17 31 "check_lines" f_check_lines := DRow.step (P := P) (w := w) (base := base) Y (k := 31) (n := 13) (r := row_check_lines 32) rfl rfl (by decide) cls_ok ok_check_lines (fun FD => FD.bindsN fun _ _ _ _ _ _ us hl => match us, hl with | [_, _], _ => rfl) (F := (lk [(2, f_check_grid), (30, f_are_lines)])) (j := 16) (ok_cons (g_check_grid.mono (by decide)) (ok_cons (g_are_lines.mono (by decide)) ok_nil))
  have g_R_init : OkI P w K mg base lex 18 f_R_init := ini_step (P := P) (w := w) (base := base) Y Z (qual := "Router.__init__") (st := st_R_init) (n := 0) (r := row_R_init) rfl rfl cls_ok ok_R_init (fun FD => FD.bindsN fun _ _ _ _ _ _ us hl => match us, hl with | [_, _, _], _ => rfl) (F := lk [(31, f_check_lines)]) (j := 17) (by decide) (ok_cons (g_check_lines.mono (by decide)) ok_nil)
  have g_valid_system : Ok P w K mg base lex 18 40 "valid_system" f_valid_system := DRow.step (P := P) (w := w) (base := base) Y (k := 40) (n := 14) (r := row_valid_system 33) rfl rfl (by decide) cls_ok ok_valid_system (fun FD => FD.bindsN fun _ _ _ _ _ _ us hl => match us, hl with | [_, _, _], _ => rfl) (F := (lk [(15, f_valid_path)])) (j := 17) (ok_cons (g_valid_path.mono (by decide)) ok_nil)
  have g_points_of : Ok P w K mg base lex 19 43 "points_of" f_points_of := DRow.step (P := P) (w := w) (base := base) Y (k := 43) (n := 15) (r := row_points_of 34) rfl rfl (by decide) cls_ok ok_points_of (fun FD => FD.bindsN fun _ _ _ _ _ _ us hl => match us, hl with | [_], _ => rfl) (F := (lk [])) (j := 18) ok_nil
  have g_keeps_apart : Ok P w K mg base lex 20 44 "keeps_apart" f_keeps_apart := DRow.step (P := P) (w := w) (base := base) Y (k := 44) (n := 16) (r := row_keeps_apart 35) rfl rfl (by decide) cls_ok ok_keeps_apart (fun FD => FD.bindsN fun _ _ _ _ _ _ us hl => match us, hl with | [_], _ => rfl) (F := (lk [(43, f_points_of)])) (j := 19) (ok_cons (g_points_of.mono (by decide)) ok_nil)
  have g_order_of : Ok P w K mg base lex 21 46 "order_of" f_order_of := DRow.step (P := P) (w := w) (base := base) Y (k := 46) (n := 17) (r := row_order_of 36) rfl rfl (by decide) cls_ok ok_order_of (fun FD => FD.bindsN fun _ _ _ _ _ _ us hl => match us, hl with | [_, _], _ => rfl) (F := (lk [])) (j := 20) ok_nil
  have g_straight_systems : Ok P w K mg base lex 22 48 "straight_systems" f_straight_systems := DRow.step (P := P) (w := w) (base := base) Y (k := 48) (n := 18) (r := row_straight_systems 38) rfl rfl (by decide) cls_ok ok_straight_systems (fun FD => FD.bindsN fun _ _ _ _ _ _ us hl => match us, hl with | [_, _, _], _ => rfl) (F := (lk [(17, f_path_list), (43, f_points_of)])) (j := 21) (ok_cons (g_path_list.mono (by decide)) (ok_cons (g_points_of.mono (by decide)) ok_nil))
  have g_is_straight : Ok P w K mg base lex 24 67 "is_straight" f_is_straight := DRow.step (P := P) (w := w) (base := base) Y (k := 67) (n := 20) (r := row_is_straight 37) rfl rfl (by decide) cls_ok ok_is_straight (fun FD => FD.bindsN fun _ _ _ _ _ _ us hl => match us, hl with | [_, _], _ => rfl) (F := (lk [(46, f_order_of)])) (j := 23) (ok_cons (g_order_of.mono (by decide)) ok_nil)
  have g_check_numbers : Ok P w K mg base lex 25 87 "check_numbers" f_check_numbers := DRow.step (P := P) (w := w) (base := base) Y (k := 87) (n := 21) (r := row_check_numbers 40) rfl rfl (by decide) cls_ok ok_check_numbers (fun FD => FD.bindsN fun _ _ _ _ _ _ us hl => match us, hl with | [_, _, _], _ => rfl) (F := (lk [(0, f_is_integer)])) (j := 24) (ok_cons (g_is_integer.mono (by decide)) ok_nil)
  have g_count_piles : Ok P w K mg base lex 26 88 "count_piles" f_count_piles := DRow.step (P := P) (w := w) (base := base) Y (k := 88) (n := 22) (r := row_count_piles 41) rfl rfl (by decide) cls_ok ok_count_piles (fun FD => FD.bindsN fun _ _ _ _ _ _ us hl => match us, hl with | [_, _, _], _ => rfl) (F := (lk [(87, f_check_numbers)])) (j := 25) (ok_cons (g_check_numbers.mono (by decide)) ok_nil)
  have g_valid_pile : Ok P w K mg base lex 27 89 "valid_pile" f_valid_pile := DRow.step (P := P) (w := w) (base := base) Y (k := 89) (n := 23) (r := row_valid_pile 42) rfl rfl (by decide) cls_ok ok_valid_pile (fun FD => FD.bindsN fun _ _ _ _ _ _ us hl => match us, hl with | [_, _, _, _], _ => rfl) (F := (lk [(0, f_is_integer)])) (j := 26) (ok_cons (g_is_integer.mono (by decide)) ok_nil)
  have g_is_pile : Ok P w K mg base lex 28 90 "is_pile" f_is_pile := DRow.step (P := P) (w := w) (base := base) Y (k := 90) (n := 24) (r := row_is_pile 43) rfl rfl (by decide) cls_ok ok_is_pile (fun FD => FD.bindsN fun _ _ _ _ _ _ us hl => match us, hl with | [_, _, _, _], _ => rfl) (F := (lk [(87, f_check_numbers), (89, f_valid_pile)])) (j := 27) (ok_cons (g_check_numbers.mono (by decide)) (ok_cons (g_valid_pile.mono (by decide)) ok_nil))
  have g_grid_for : Ok P w K mg base lex 29 91 "grid_for" f_grid_for := DRow.step (P := P) (w := w) (base := base) Y (k := 91) (n := 25) (r := row_grid_for 44) rfl rfl (by decide) cls_ok ok_grid_for (fun FD => FD.bindsN fun _ _ _ _ _ _ us hl => match us, hl with | [_, _, _], _ => rfl) (F := (lk [])) (j := 28) ok_nil
  have g_lines_for : Ok P w K mg base lex 30 92 "lines_for" f_lines_for := DRow.step (P := P) (w := w) (base := base) Y (k := 92) (n := 26) (r := row_lines_for 45) rfl rfl (by decide) cls_ok ok_lines_for (fun FD => FD.bindsN fun _ _ _ _ _ _ us hl => match us, hl with | [_, _, _], _ => rfl) (F := (lk [])) (j := 29) ok_nil
  have g_path_for : Ok P w K mg base lex 31 93 "path_for" f_path_for := DRow.step (P := P) (w := w) (base := base) Y (k := 93) (n := 27) (r := row_path_for 46) rfl rfl (by decide) cls_ok ok_path_for (fun FD => FD.bindsN fun _ _ _ _ _ _ us hl => match us, hl with | [_, _, _], _ => rfl) (F := (lk [])) (j := 30) ok_nil
  have g_system_of : Ok P w K mg base lex 32 94 "system_of" f_system_of := DRow.step (P := P) (w := w) (base := base) Y (k := 94) (n := 28) (r := row_system_of 47) rfl rfl (by decide) cls_ok ok_system_of (fun FD => FD.bindsN fun _ _ _ _ _ _ us hl => match us, hl with | [_, _, _, _], _ => rfl) (F := (lk [(87, f_check_numbers), (89, f_valid_pile), (93, f_path_for), (92, f_lines_for)])) (j := 31) (ok_cons (g_check_numbers.mono (by decide)) (ok_cons (g_valid_pile.mono (by decide)) (ok_cons (g_path_for.mono (by decide)) (ok_cons (g_lines_for.mono (by decide)) ok_nil))))
  have g_row_for : Ok P w K mg base lex 33 95 "row_for" f_row_for := DRow.step (P := P) (w := w) (base := base) Y (k := 95) (n := 29) (r := row_row_for 48) rfl rfl (by decide) cls_ok ok_row_for (fun FD => FD.bindsN fun _ _ _ _ _ _ us hl => match us, hl with | [_, _], _ => rfl) (F := (lk [])) (j := 32) ok_nil
  have g_pile_of : Ok P w K mg base lex 34 96 "pile_of" f_pile_of := DRow.step (P := P) (w := w) (base := base) Y (k := 96) (n := 30) (r := row_pile_of 49) rfl rfl (by decide) cls_ok ok_pile_of (fun FD => FD.bindsN fun _ _ _ _ _ _ us hl => match us, hl with | [_, _, _, _], _ => rfl) (F := (lk [(87, f_check_numbers), (92, f_lines_for), (67, f_is_straight), (40, f_valid_system), (91, f_grid_for), (44, f_keeps_apart), (95, f_row_for)])) (j := 33) (ok_cons (g_check_numbers.mono (by decide)) (ok_cons (g_lines_for.mono (by decide)) (ok_cons (g_is_straight.mono (by decide)) (ok_cons (g_valid_system.mono (by decide)) (ok_cons (g_grid_for.mono (by decide)) (ok_cons (g_keeps_apart.mono (by decide)) (ok_cons (g_row_for.mono (by decide)) ok_nil)))))))
  have g_R___len__ : OkT P w K mg base lex 38 "__len__" f_R___len__ := meth_step (P := P) (w := w) (base := base) Y Z (m := "__len__") (qual := "Router.__len__") (st := st_R___len__) (n := 1) (r := row_R___len__ 0) rfl rfl (msn := ["__len__", "__str__", "taken", "free", "extended", "step", "able", "can_finish", "undo"]) rfl (by decide) cls_ok ok_R___len__ (fun FD => FD.bindsN fun _ _ _ _ _ _ us hl => match us, hl with | [_], _ => rfl) (F := (lk [])) (j := 37) (t := 34) (i := 36) (by decide) (by decide) (fun z => nomatch z) okT_nil (fun z => nomatch z) ok_nil
  have g_R___str__ : OkT P w K mg base lex 42 "__str__" f_R___str__ := meth_step (P := P) (w := w) (base := base) Y Z (m := "__str__") (qual := "Router.__str__") (st := st_R___str__) (n := 2) (r := row_R___str__ 0) rfl rfl (msn := ["__len__", "__str__", "taken", "free", "extended", "step", "able", "can_finish", "undo"]) rfl (by decide) cls_ok ok_R___str__ (fun FD => FD.bindsN fun _ _ _ _ _ _ us hl => match us, hl with | [_], _ => rfl) (F := (lk [])) (j := 41) (t := 38) (i := 40) (by decide) (by decide) (fun z => nomatch z) okT_nil (fun z => nomatch z) ok_nil
  have g_R_taken : OkT P w K mg base lex 46 "taken" f_R_taken := meth_step (P := P) (w := w) (base := base) Y Z (m := "taken") (qual := "Router.taken") (st := st_R_taken) (n := 3) (r := row_R_taken 0) rfl rfl (msn := ["__len__", "__str__", "taken", "free", "extended", "step", "able", "can_finish", "undo"]) rfl (by decide) cls_ok ok_R_taken (fun FD => FD.bindsN fun _ _ _ _ _ _ us hl => match us, hl with | [_], _ => rfl) (F := (lk [(43, f_points_of)])) (j := 45) (t := 42) (i := 44) (by decide) (by decide) (fun z => nomatch z) okT_nil (fun z => nomatch z) (ok_cons (g_points_of.mono (by decide)) ok_nil)
  have g_R_free : OkT P w K mg base lex 50 "free" f_R_free := meth_step (P := P) (w := w) (base := base) Y Z (m := "free") (qual := "Router.free") (st := st_R_free) (n := 4) (r := row_R_free 0) rfl rfl (msn := ["__len__", "__str__", "taken", "free", "extended", "step", "able", "can_finish", "undo"]) rfl (by decide) cls_ok ok_R_free (fun FD => FD.bindsN fun _ _ _ _ _ _ us hl => match us, hl with | [_, _, _], _ => rfl) (F := (lk [(14, f_after), (12, f_weight_at), (904, f_R_taken)])) (j := 49) (t := 46) (i := 48) (by decide) (by decide) (fun z => nomatch z) (okT_cons (g_R_taken.mono (by decide)) okT_nil) (fun z => nomatch z) (ok_cons (g_after.mono (by decide)) (ok_cons (g_weight_at.mono (by decide)) ok_nil))
  have g_R_extended : OkT P w K mg base lex 54 "extended" f_R_extended := meth_step (P := P) (w := w) (base := base) Y Z (m := "extended") (qual := "Router.extended") (st := st_R_extended) (n := 5) (r := row_R_extended 0) rfl rfl (msn := ["__len__", "__str__", "taken", "free", "extended", "step", "able", "can_finish", "undo"]) rfl (by decide) cls_ok ok_R_extended (fun FD => FD.bindsN fun _ _ _ _ _ _ us hl => match us, hl with | [_, _, _], _ => rfl) (F := (lk [])) (j := 53) (t := 50) (i := 52) (by decide) (by decide) (fun z => nomatch z) okT_nil (fun z => nomatch z) ok_nil
  have g_R_step : OkT P w K mg base lex 58 "step" f_R_step := meth_step (P := P) (w := w) (base := base) Y Z (m := "step") (qual := "Router.step") (st := st_R_step) (n := 6) (r := row_R_step 0) rfl rfl (msn := ["__len__", "__str__", "taken", "free", "extended", "step", "able", "can_finish", "undo"]) rfl (by decide) cls_ok ok_R_step (fun FD => FD.bindsN fun _ _ _ _ _ _ us hl => match us, hl with | [_, _, _], _ => rfl) (F := (lk [(0, f_is_integer), (905, f_R_free), (906, f_R_extended)])) (j := 57) (t := 54) (i := 56) (by decide) (by decide) (fun z => nomatch z) (okT_cons (g_R_free.mono (by decide)) (okT_cons (g_R_extended.mono (by decide)) okT_nil)) (fun z => nomatch z) (ok_cons (g_is_integer.mono (by decide)) ok_nil)
  have g_R_able : OkT P w K mg base lex 62 "able" f_R_able := meth_step (P := P) (w := w) (base := base) Y Z (m := "able") (qual := "Router.able") (st := st_R_able) (n := 7) (r := row_R_able 0) rfl rfl (msn := ["__len__", "__str__", "taken", "free", "extended", "step", "able", "can_finish", "undo"]) rfl (by decide) cls_ok ok_R_able (fun FD => FD.bindsN fun _ _ _ _ _ _ us hl => match us, hl with | [_, _], _ => rfl) (F := (lk [(43, f_points_of), (48, f_straight_systems)])) (j := 61) (t := 58) (i := 60) (by decide) (by decide) (fun z => nomatch z) okT_nil (fun z => nomatch z) (ok_cons (g_points_of.mono (by decide)) (ok_cons (g_straight_systems.mono (by decide)) ok_nil))
  have g_R_can_finish : OkT P w K mg base lex 66 "can_finish" f_R_can_finish := meth_step (P := P) (w := w) (base := base) Y Z (m := "can_finish") (qual := "Router.can_finish") (st := st_R_can_finish) (n := 8) (r := row_R_can_finish 0) rfl rfl (msn := ["__len__", "__str__", "taken", "free", "extended", "step", "able", "can_finish", "undo"]) rfl (by decide) cls_ok ok_R_can_finish (fun FD => FD.bindsN fun _ _ _ _ _ _ us hl => match us, hl with | [_], _ => rfl) (F := (lk [(910, f_R_able)])) (j := 65) (t := 62) (i := 64) (by decide) (by decide) (fun z => nomatch z) (okT_cons (g_R_able.mono (by decide)) okT_nil) (fun z => nomatch z) ok_nil
  have g_R_undo : OkT P w K mg base lex 70 "undo" f_R_undo := meth_step (P := P) (w := w) (base := base) Y Z (m := "undo") (qual := "Router.undo") (st := st_R_undo) (n := 9) (r := row_R_undo 0) rfl rfl (msn := ["__len__", "__str__", "taken", "free", "extended", "step", "able", "can_finish", "undo"]) rfl (by decide) cls_ok ok_R_undo (fun FD => FD.bindsN fun _ _ _ _ _ _ us hl => match us, hl with | [_], _ => rfl) (F := (lk [])) (j := 69) (t := 66) (i := 68) (by decide) (by decide) (fun z => nomatch z) okT_nil (fun z => nomatch z) ok_nil
  have g__law_pile : Ok P w K mg base lex 71 127 "_law_pile" f__law_pile := DRow.stepA (P := P) (w := w) (base := base) Y (k := 127) (n := 31) (r := row__law_pile 58) rfl rfl (by decide) cls_ok ok__law_pile (fun FD => FD.bindsN fun _ _ _ _ _ _ us hl => match us, hl with | [_, _, _, _, _], _ => rfl) (F := (lk [(88, f_count_piles), (90, f_is_pile), (94, f_system_of), (96, f_pile_of)])) (j := 70) (ask _ (by decide)) okM_nil (ok_cons (g_count_piles.mono (by decide)) (ok_cons (g_is_pile.mono (by decide)) (ok_cons (g_system_of.mono (by decide)) (ok_cons (g_pile_of.mono (by decide)) ok_nil))))
  have g__law_step : Ok P w K mg base lex 75 128 "_law_step" f__law_step := DRow.stepR (P := P) (w := w) (base := base) Y Z (k := 128) (n := 32) (r := row__law_step 59) rfl rfl (by decide) cls_ok ok__law_step (fun FD => FD.bindsN fun _ _ _ _ _ _ us hl => match us, hl with | [_, _, _], _ => rfl) (F := (lk [(907, f_R_step)])) (j := 74) (t := 71) (i := 73) (by decide) (by decide) (fun _ => ask _ (by decide)) (okT_cons (g_R_step.mono (by decide)) okT_nil) (fun z => nomatch z) ok_nil
  have g__law_steps_refused : Ok P w K mg base lex 79 129 "_law_steps_refused" f__law_steps_refused := DRow.stepR (P := P) (w := w) (base := base) Y Z (k := 129) (n := 33) (r := row__law_steps_refused 60) rfl rfl (by decide) cls_ok ok__law_steps_refused (fun FD => FD.bindsN fun _ _ _ _ _ _ us hl => match us, hl with | [_], _ => rfl) (F := (lk [(128, f__law_step), (901, f_R___len__), (902, f_R___str__), (912, f_R_can_finish), (913, f_R_undo), (900, f_R_init)])) (j := 78) (t := 75) (i := 77) (by decide) (by decide) (fun z => nomatch z) (okT_cons (g_R___len__.mono (by decide)) (okT_cons (g_R___str__.mono (by decide)) (okT_cons (g_R_can_finish.mono (by decide)) (okT_cons (g_R_undo.mono (by decide)) okT_nil)))) (fun _ => g_R_init.mono (by decide)) (ok_cons (g__law_step.mono (by decide)) ok_nil)
  exact hF base (ok_cons (g__law_draw.mono (by decide)) (ok_cons (g__law_pile.mono (by decide)) (ok_cons (g__law_steps_refused.mono (by decide)) ok_nil)))
end
theorem facts_eq : lex.facts = facts := by rfl
theorem fns_eq : rows.map (DRow.d body) ++ lex.ms = fns := by rfl
end K21

end
section
/-! What the laws draw. -/
namespace Ap
open PySem

@[simp] theorem lk_self (k : Nat) (f : FnS) (l : List (Nat × FnS)) : lk ((k, f) :: l) k = f := by simp [lk]
theorem lk_ne {k j : Nat} {f : FnS} {l : List (Nat × FnS)} (h : (k == j) = false) : lk ((j, f) :: l) k = lk l k := by simp [lk, List.lookup, h]
theorem cell_ok (ns : List Int) (k : Int) (hk : 0 ≤ k) (hn : ns.length ≤ 63) : ∃ v, f__law_cell_at [.scr ns, .dat (.int k)] = .ret (.int v) [.scr ns, .dat (.int k)] := by
  simp only [f__law_cell_at, defR_eq, b__law_cell_at]
  by_cases h1 : k < ns.length
  · have hl : k.toNat < ns.length := by omega
    exact ⟨ns[k.toNat], by simp [scrIx, h1, hk, hl, outsOf]⟩
  · cases ns with
    | nil =>
      have h2 : ¬ k < 0 := by omega
      exact ⟨0, by simp [scrIx, outsOf, h2]⟩
    | cons a as =>
      have hl : (0 : Int) < (((a :: as).length : Nat) : Int) := by simp
      have hm1 := Int.emod_nonneg k (show (((a :: as).length : Nat) : Int) ≠ 0 by omega)
      have hm2 := Int.emod_lt_of_pos k hl
      obtain ⟨L, hL⟩ : ∃ L, L = a :: as := ⟨_, rfl⟩
      have he : L.isEmpty = false := by rw [hL]; rfl
      rw [← hL] at h1 hm1 hm2 hl hn ⊢
      have hix : ∃ v, scrIx L (.int (k % (L.length : Int))) = some v := by
        have : (k % (L.length : Int)).toNat < L.length := by omega
        exact ⟨L[(k % (L.length : Int)).toNat], by simp [scrIx, hm1, this]⟩
      obtain ⟨v, hv⟩ := hix
      obtain ⟨m, hm, hm3⟩ : ∃ m : Int, m = (if 60 < k / (L.length : Int) then 60 else k / (L.length : Int)) ∧ 0 ≤ m ∧ m ≤ 60 := ⟨_, rfl, by
        have : 0 ≤ k / (L.length : Int) := Int.ediv_nonneg hk (by omega)
        split <;> omega⟩
      have hr := rng1' hm3.1 (by omega)
      have hdiv : prim .fdiv [.int k, .int (L.length : Int)] = some (.int (k / (L.length : Int))) := prim_fdiv hl (by omega)
      have hmod : prim .mod [.int k, .int (L.length : Int)] = some (.int (k % (L.length : Int))) := prim_mod hl
      obtain ⟨⟨u, x⟩, loop, _⟩ := for_inv (S := Int × Option D) (fun i : Nat => PyData.int i) (fun s => [some (.scr L), some (.dat (.int k)), some (.dat (.int s.1)), sl s.2])
        (fun d q => (R.of (bindTg q (.one 3) d) q).st fun q1 _ => runs (lk []) [.asg (.one 2) (.prim .fdiv [.var 2, .lit (.int 1000003)])] q1) (fun _ _ => True) (List.range m.toNat) (v, none) trivial
        (fun pre a suf s _ _ => ⟨(s.1 / 1000003, some (.int a)), .inl (by
          have hd : prim .fdiv [.int s.1, .int 1000003] = some (.int (s.1 / 1000003)) := prim_fdiv (by omega) (by omega)
          simp [hd]), trivial⟩)
      have hmul : prim .mul [.int v, .int 31] = some (.int (v * 31)) := prim_mul (by simp [smallI])
      have hmul2 : prim .mul [.int u, .int 101] = some (.int (u * 101)) := prim_mul (by simp [smallI])
      refine ⟨v * 31 + k + u * 101, ?_⟩
      have loop2 : run (lk []) (.forS (.one 3) (.rng [.prim .min2 [.prim .fdiv [.var 1, .slen 0], .lit (.int 60)]]) [.asg (.one 2) (.prim .fdiv [.var 2, .lit (.int 1000003)])]) [some (.scr L), some (.dat (.int k)), some (.dat (.int v)), none] = .nx [some (.scr L), some (.dat (.int k)), some (.dat (.int u)), sl x] := by
        exact run_for_of (by simp [hdiv, ← hm, hr]) loop
      simp [h1, he, hmod, hv, loop2, hmul, hmul2, outsOf]
/-- the town: how many draws were made -/
def twn (n : Nat) : List D := List.replicate n (.int 0)
@[simp] theorem twn_len (n : Nat) : (twn n).length = n := by simp [twn]
theorem twn_succ (n : Nat) : twn n ++ [.int 0] = twn (n + 1) := by simp [twn, List.replicate_succ']
theorem mixed_ok (ns : List Int) (k many : Int) (hk : 0 ≤ k) (hm : 0 < many) (hn : ns.length ≤ 63) : ∃ v, 0 ≤ v ∧ v < many ∧ f__law_mixed [.scr ns, .dat (.int k), .dat (.int many)] = .ret (.int v) [.scr ns, .dat (.int k), .dat (.int many)] := by
  obtain ⟨c, hc⟩ := cell_ok ns k hk hn
  obtain ⟨a, ha, ha1, ha2⟩ : ∃ a, a = (c * 1103515245 + 7919 * k + 12345) % 2147483647 ∧ 0 ≤ a ∧ a < 2147483647 := ⟨_, rfl, Int.emod_nonneg _ (by omega), Int.emod_lt_of_pos _ (by omega)⟩
  refine ⟨a ^ 5 % 2147483647 % 999983 % many, Int.emod_nonneg _ (by omega), Int.emod_lt_of_pos _ hm, ?_⟩
  have h1 : prim .mul [.int c, .int 1103515245] = some (.int (c * 1103515245)) := prim_mul (by simp [smallI])
  have h2 : prim .mul [.int 7919, .int k] = some (.int (7919 * k)) := prim_mul (by simp [smallI])
  have h3 : prim .pow [.int a, .int 5] = some (.int (a ^ 5)) := prim_pow (by omega) (by omega) (by omega)
  have m1 : ∀ i : Int, prim .mod [.int i, .int 2147483647] = some (.int (i % 2147483647)) := fun i => prim_mod (by omega)
  have m2 : ∀ i : Int, prim .mod [.int i, .int 999983] = some (.int (i % 999983)) := fun i => prim_mod (by omega)
  have m3 : ∀ i : Int, prim .mod [.int i, .int many] = some (.int (i % many)) := fun i => prim_mod hm
  simp only [f__law_mixed, defR_eq, b__law_mixed]
  simp [hc, h1, h2, m1, ← ha, h3, m2, m3, outsOf]
theorem draw_ok (ns : List Int) (n : Nat) (many : Int) (hm : 0 < many) (hn : ns.length ≤ 63) (hl : n < 100000) : ∃ v, 0 ≤ v ∧ v < many ∧ f__law_draw [.scr ns, .bor (.lst (twn n)), .dat (.int many)] = .ret (.int v) [.scr ns, .bor (.lst (twn (n + 1))), .dat (.int many)] := by
  obtain ⟨v, h1, h2, h3⟩ := mixed_ok ns ((n : Int) + 1) many (by omega) hm hn
  refine ⟨v, h1, h2, ?_⟩
  simp only [f__law_draw, defR_eq, b__law_draw]
  have ha : ∀ r : Env, appO r 1 (.int 0) (some (.lst (twn n))) = some (putMo r 1 (.lst (twn (n + 1)))) := fun r => by rw [appO_lst (by simp; omega), twn_succ]
  simp [ha, h3, outsOf]
theorem pick_ok (ns : List Int) (n : Nat) (ds : List D) (h0 : ds ≠ []) (hn : ns.length ≤ 63) (hl : n < 100000) : ∃ (d : D) (j : Nat), ds[j]? = some d ∧ d ∈ ds ∧ f__law_pick [.scr ns, .bor (.lst (twn n)), .dat (.list ds)] = .ret d [.scr ns, .bor (.lst (twn (n + 1))), .dat (.list ds)] := by
  have hp : 0 < ds.length := List.length_pos_iff.mpr h0
  obtain ⟨v, h1, h2, h3⟩ := draw_ok ns n ds.length (by omega) hn hl
  have hv : v.toNat < ds.length := by omega
  refine ⟨ds[v.toNat], v.toNat, by simp [hv], List.getElem_mem _, ?_⟩
  simp only [f__law_pick, defR_eq, b__law_pick]
  simp [h3, outsOf, atI_nat ds h1, hv]

/-! ### a field -/
abbrev Grid := List (List Int)
def encR (r : List Int) : D := .tuple (r.map .int)
def encG (g : Grid) : D := .tuple (g.map encR)
structure GridOk (g : Grid) (w h : Nat) : Prop where
  w1 : 1 ≤ w
  w6 : w ≤ 6
  h1 : 1 ≤ h
  h6 : h ≤ 6
  len : g.length = h
  row : ∀ r ∈ g, r.length = w
  cell : ∀ r ∈ g, ∀ v ∈ r, 0 ≤ v ∧ v ≤ 9
theorem range_pre {n a : Nat} {pre suf : List Nat} (e : pre ++ a :: suf = List.range n) : pre.length = a ∧ a < n := by
  have h1 : (List.range n)[pre.length]? = some a := by rw [← e]; simp
  have h2 : pre.length < n := by
    have := congrArg List.length e
    simp at this
    omega
  rw [List.getElem?_range h2] at h1
  cases h1
  exact ⟨rfl, h2⟩
theorem pick_top (ns : List Int) (n : Nat) (hn : ns.length ≤ 63) (hl : n < 100000) : ∃ t : Int, 1 ≤ t ∧ t ≤ 9 ∧ f__law_pick [.scr ns, .bor (.lst (twn n)), .dat (.list [.int 1, .int 1, .int 2, .int 9])] = .ret (.int t) [.scr ns, .bor (.lst (twn (n + 1))), .dat (.list [.int 1, .int 1, .int 2, .int 9])] := by
  obtain ⟨d, j, _, h2, h3⟩ := pick_ok ns n [.int 1, .int 1, .int 2, .int 9] (by simp) hn hl
  simp at h2
  rcases h2 with rfl | rfl | rfl <;> exact ⟨_, by omega, by omega, h3⟩
abbrev fieldF : Nat → FnS := lk [(7, f__law_draw), (8, f__law_pick)]
abbrev fieldI : Sm := .forS (.one 10) (.rng [.var 7]) [.app 9 (.ite (.prim .lt [.call 7 [.var 0, .var 1, .lit (.int 6)], .var 4]) (.lit (.int 0)) (.prim .add [.lit (.int 1), .call 7 [.var 0, .var 1, .var 3]]))]
abbrev fieldO : Sm := .forS (.one 6) (.rng [.var 8]) [.new 9 (.lst []), fieldI, .app 5 (.prim .tupOf [.var 9])]
abbrev fieldE (ns : List Int) (most t c W H : Int) (n : Nat) (rows : List D) (y r x : Option Slot) : Env :=
  [some (.scr ns), some (.bor (.lst (twn n))), some (.dat (.int most)), some (.dat (.int t)), some (.dat (.int c)), some (.own (.lst rows)), y, some (.dat (.int W)), some (.dat (.int H)), r, x]
theorem fieldF7 : fieldF 7 = f__law_draw := rfl
theorem fieldF8 : fieldF 8 = f__law_pick := rfl
theorem field_row {ns : List Int} {most t c : Int} {W H : Nat} (hn : ns.length ≤ 63) (hW : W ≤ 6) (t1 : 1 ≤ t) (t2 : t ≤ 9) (rows : List D) (y : Int) (x : Option D) (m : Nat) (hm : m < 60000) : ∃ (row : List Int) (x' : Option D) (m' : Nat), row.length = W ∧ (∀ v ∈ row, 0 ≤ v ∧ v ≤ 9) ∧ m' ≤ m + 2 * W ∧
      run fieldF fieldI (fieldE ns most t c W H m rows (some (.dat (.int y))) (some (.own (.lst []))) (sl x)) = .nx (fieldE ns most t c W H m' rows (some (.dat (.int y))) (some (.own (.lst (row.map .int)))) (sl x')) := by
  obtain ⟨⟨row, x', m'⟩, loop, i1, i2, i3⟩ := for_inv (S := List Int × Option D × Nat) (fun i : Nat => PyData.int i)
    (fun s => fieldE ns most t c W H s.2.2 rows (some (.dat (.int y))) (some (.own (.lst (s.1.map .int)))) (sl s.2.1))
    (fun d q => (R.of (bindTg q (.one 10) d) q).st fun q1 _ => runs fieldF [.app 9 (.ite (.prim .lt [.call 7 [.var 0, .var 1, .lit (.int 6)], .var 4]) (.lit (.int 0)) (.prim .add [.lit (.int 1), .call 7 [.var 0, .var 1, .var 3]]))] q1)
    (fun pre s => s.1.length = pre.length ∧ (∀ v ∈ s.1, 0 ≤ v ∧ v ≤ 9) ∧ s.2.2 ≤ m + 2 * pre.length) (List.range W) ([], x, m) ⟨rfl, by simp, by simp⟩ (by
      rintro pre a suf ⟨row, x, k⟩ e ⟨i1, i2, i3⟩
      obtain ⟨p1, p2⟩ := range_pre e
      simp only at i1 i2 i3
      obtain ⟨d, d1, d2, hd⟩ := draw_ok ns k 6 (by omega) hn (by omega)
      have ha : ∀ (r : Env) (z : Int), appO r 9 (.int z) (some (.lst (row.map .int))) = some (putMo r 9 (.lst ((row ++ [z]).map .int))) := fun r z => by
        rw [appO_lst (by simp; omega)]
        simp
      by_cases hlt : d < c
      · refine ⟨(row ++ [0], some (.int a), k + 1), .inl ?_, by simp [i1], ?_, by simp; omega⟩
        · simp [hd, hlt, ha]
        · intro v hv
          simp at hv
          rcases hv with hv | rfl
          · exact i2 v hv
          · omega
      · obtain ⟨z, z1, z2, hz⟩ := draw_ok ns (k + 1) t (by omega) hn (by omega)
        refine ⟨(row ++ [1 + z], some (.int a), k + 2), .inl ?_, by simp [i1], ?_, by simp; omega⟩
        · simp [hd, hlt, hz, ha]
        · intro v hv
          simp at hv
          rcases hv with hv | rfl
          · exact i2 v hv
          · omega)
  refine ⟨row, x', m', by simpa using i1, i2, by simpa using i3, ?_⟩
  exact run_for_of (by simp [rng1 (show W ≤ 1000000 by omega)]) loop
theorem field_rows {ns : List Int} {most t c : Int} {W H n : Nat} (hn : ns.length ≤ 63) (hW : W ≤ 6) (hH : H ≤ 6) (t1 : 1 ≤ t) (t2 : t ≤ 9) (hl : n < 50000) : ∃ (g : Grid) (y r x : Option Slot) (m' : Nat), g.length = H ∧ (∀ r ∈ g, r.length = W ∧ ∀ v ∈ r, 0 ≤ v ∧ v ≤ 9) ∧ m' ≤ n + 100 ∧
      run fieldF fieldO (fieldE ns most t c W H n [] none none none) = .nx (fieldE ns most t c W H m' (g.map encR) y r x) := by
  obtain ⟨⟨g, y', r', x', m'⟩, loop, i1, i2, i3⟩ := for_inv (S := Grid × Option D × Option (List D) × Option D × Nat) (fun i : Nat => PyData.int i)
    (fun s => fieldE ns most t c W H s.2.2.2.2 (s.1.map encR) (sl s.2.1) (so s.2.2.1) (sl s.2.2.2.1))
    (fun d q => (R.of (bindTg q (.one 6) d) q).st fun q1 _ => runs fieldF [.new 9 (.lst []), fieldI, .app 5 (.prim .tupOf [.var 9])] q1)
    (fun pre s => s.1.length = pre.length ∧ (∀ r ∈ s.1, r.length = W ∧ ∀ v ∈ r, 0 ≤ v ∧ v ≤ 9) ∧ s.2.2.2.2 ≤ n + 12 * pre.length) (List.range H) ([], none, none, none, n) ⟨rfl, by simp, by simp⟩ (by
      rintro pre a suf ⟨g, y, r, x, k⟩ e ⟨i1, i2, i3⟩
      obtain ⟨p1, p2⟩ := range_pre e
      simp only at i1 i2 i3
      obtain ⟨row, x', m', l1, l2, l3, l4⟩ := field_row (most := most) (c := c) (W := W) (H := H) hn hW t1 t2 (g.map encR) a x k (by omega)
      have ha : ∀ (r : Env), appO r 5 (.tuple (row.map .int)) (some (.lst (g.map encR))) = some (putMo r 5 (.lst ((g ++ [row]).map encR))) := fun r => by
        rw [appO_lst (by simp; omega)]
        simp [encR]
      refine ⟨(g ++ [row], some (.int a), some (row.map .int), x', m'), .inl ?_, by simp [i1], ?_, ?_⟩
      · simp [l4, ha]
      · intro r hr
        simp at hr
        rcases hr with hr | rfl
        · exact i2 r hr
        · exact ⟨l1, l2⟩
      · simp
        omega)
  refine ⟨g, sl y', so r', sl x', m', by simpa using i1, i2, by simp at i3; omega, ?_⟩
  exact run_for_of (by simp [rng1 (show H ≤ 1000000 by omega)]) loop
theorem field_ok (ns : List Int) (n : Nat) (most : Int) (h1 : 1 ≤ most) (h6 : most ≤ 6) (hn : ns.length ≤ 63) (hl : n < 40000) :
    ∃ (g : Grid) (w h n' : Nat), GridOk g w h ∧ (w : Int) ≤ most ∧ (h : Int) ≤ most ∧ n' ≤ n + 200 ∧ f__law_field [.scr ns, .bor (.lst (twn n)), .dat (.int most)] = .ret (encG g) [.scr ns, .bor (.lst (twn n')), .dat (.int most)] := by
  obtain ⟨w, w1, w2, hw⟩ := draw_ok ns n most (by omega) hn (by omega)
  obtain ⟨h, e1, e2, hh⟩ := draw_ok ns (n + 1) most (by omega) hn (by omega)
  obtain ⟨t, t1, t2, ht⟩ := pick_top ns (n + 2) hn (by omega)
  obtain ⟨c, c1, c2, hc⟩ := draw_ok ns (n + 3) 3 (by omega) hn (by omega)
  obtain ⟨W, hW⟩ : ∃ W : Nat, (W : Int) = 1 + w := ⟨(1 + w).toNat, by omega⟩
  obtain ⟨H, hH⟩ : ∃ H : Nat, (H : Int) = 1 + h := ⟨(1 + h).toNat, by omega⟩
  obtain ⟨g, y, r, x, m', i1, i2, i3, loop⟩ := field_rows (most := most) (t := t) (c := c) (W := W) (H := H) (n := n + 4) hn (by omega) (by omega) t1 t2 (by omega)
  refine ⟨g, W, H, m', ⟨by omega, by omega, by omega, by omega, i1, fun r hr => (i2 r hr).1, fun r hr => (i2 r hr).2⟩, by omega, by omega, by omega, ?_⟩
  have a1 : n + 1 + 1 = n + 2 := rfl
  have a2 : n + 2 + 1 = n + 3 := rfl
  have a3 : n + 3 + 1 = n + 4 := rfl
  have e8 : lk [(7, f__law_draw), (8, f__law_pick)] 8 = f__law_pick := rfl
  rw [a1] at hh
  rw [a2] at ht
  rw [a3] at hc
  simp only [f__law_field, defR_eq, b__law_field]
  simp [hw, hh, ht, hc, ← hW, ← hH, loop, outsOf, encG, e8]
end Ap

end
section
/-! law_k21: piles and steps that are refused. -/
namespace Ap
open PySem

def okRet : RS → Bool
  | .ret (.bool true) _ => true
  | _ => false
theorem okRet_ok {x : RS} (h : okRet x = true) : ∃ r, x = .ret (.bool true) r := by
  unfold okRet at h
  split at h
  · exact ⟨_, rfl⟩
  · cases h
abbrev k21F : Nat → FnS := lk [(7, f__law_draw), (127, f__law_pile), (129, f__law_steps_refused)]
theorem k21F7 : k21F 7 = f__law_draw := rfl
def k21rest : List Sm := b_law_k21.drop 2
abbrev k21E (ns : List Int) (k : Int) : Env := [some (.scr ns), some (.own (.lst (twn 1))), some (.dat (.int k)), none, none, none, none, none]
theorem k21_at1 (ns : List Int) : okRet (runs k21F k21rest (k21E ns 1)) = true := by kernel_rfl
theorem k21_at2 (ns : List Int) : okRet (runs k21F k21rest (k21E ns 2)) = true := by kernel_rfl
theorem k21_at3 (ns : List Int) : okRet (runs k21F k21rest (k21E ns 3)) = true := by kernel_rfl
theorem k21_at4 (ns : List Int) : okRet (runs k21F k21rest (k21E ns 4)) = true := by kernel_rfl
theorem k21_at5 (ns : List Int) : okRet (runs k21F k21rest (k21E ns 5)) = true := by kernel_rfl
theorem k21_at6 (ns : List Int) : okRet (runs k21F k21rest (k21E ns 6)) = true := by kernel_rfl
theorem k21_at7 (ns : List Int) : okRet (runs k21F k21rest (k21E ns 7)) = true := by kernel_rfl
theorem k21_at8 (ns : List Int) : okRet (runs k21F k21rest (k21E ns 8)) = true := by kernel_rfl
theorem k21_at9 (ns : List Int) : okRet (runs k21F k21rest (k21E ns 9)) = true := by kernel_rfl
theorem k21_at (ns : List Int) {v : Int} (h0 : 0 ≤ v) (h1 : v < 9) : okRet (runs k21F k21rest (k21E ns (1 + v))) = true := by
  obtain h | h | h | h | h | h | h | h | h : v = 0 ∨ v = 1 ∨ v = 2 ∨ v = 3 ∨ v = 4 ∨ v = 5 ∨ v = 6 ∨ v = 7 ∨ v = 8 := by omega
  · rw [h]; exact k21_at1 ns
  · rw [h]; exact k21_at2 ns
  · rw [h]; exact k21_at3 ns
  · rw [h]; exact k21_at4 ns
  · rw [h]; exact k21_at5 ns
  · rw [h]; exact k21_at6 ns
  · rw [h]; exact k21_at7 ns
  · rw [h]; exact k21_at8 ns
  · rw [h]; exact k21_at9 ns
theorem k21_true (ns : List Int) (hn : ns.length ≤ 63) : ∃ outs, f_law_k21 [.scr ns] = .ret (.bool true) outs := by
  obtain ⟨v, h0, h1, hd⟩ := draw_ok ns 0 9 (by decide) hn (by decide)
  obtain ⟨r, hr⟩ := okRet_ok (k21_at ns h0 h1)
  simp only [f_law_k21, defR_eq]
  have z0 : ([.scr ns] : List Slot).map some ++ List.replicate (8 - 1) none = [some (.scr ns), none, none, none, none, none, none, none] := rfl
  have zl : ([.scr ns] : List Slot).length = 1 := rfl
  rw [if_pos zl, z0]
  have eb : b_law_k21 = .new 1 (.lst []) :: .asg (.one 2) (.prim .add [.lit (.int 1), .call 7 [.var 0, .var 1, .lit (.int 9)]]) :: k21rest := rfl
  have z1 : run k21F (.new 1 (.lst [])) [some (.scr ns), none, none, none, none, none, none, none] = .nx [some (.scr ns), some (.own (.lst (twn 0))), none, none, none, none, none, none] := by simp [twn]
  have z2 : run k21F (.asg (.one 2) (.prim .add [.lit (.int 1), .call 7 [.var 0, .var 1, .lit (.int 9)]])) [some (.scr ns), some (.own (.lst (twn 0))), none, none, none, none, none, none] = .nx (k21E ns (1 + v)) := by simp [k21F7, hd]
  rw [eb]
  simp only [runs_cons, z1, z2, RS.bind_nx, hr, finR_ret]
  exact ⟨_, rfl⟩
end Ap

end
open PySem PySem.W PySem.Calls PyProof.Rows
theorem PySem.Challenge.cw_apartpaths_k21_piles_and_steps_refused_holds : PySem.Challenge.rw_apartpaths_k21_piles_and_steps_refused.Holds := by
  w_on; o_law
  refine HandSHeadRun.head_any (r := OpenLaw.row PySem.Challenge.rw_apartpaths_k21_piles_and_steps_refused) (q := view (OpenLaw.row PySem.Challenge.rw_apartpaths_k21_piles_and_steps_refused).prog [61]) (H := K21.hk) (ob := K21.ob) (M := 20000) (loose := K21.loose) (d := HandSHeadRun.topDef (OpenLaw.row PySem.Challenge.rw_apartpaths_k21_piles_and_steps_refused).prog 61) (kwd := []) K21.ob_eq
    (by kernel_rfl) (fun s => by kernel_rfl) K21.run_top (by kernel_rfl) (by kernel_rfl) (by kernel_rfl) (by rfl) (by first | assumption | decide +kernel) (by decide +kernel) ⟨rfl, rfl, rfl, rfl, rfl, by decide +kernel⟩ ?hw ?hc
  case hw => w_witness2
  case hc =>
    refine Ap.walk_end (l := PySem.Challenge.rw_apartpaths_k21_piles_and_steps_refused) (n := 63) (k := 80) (x := "script") rfl (by decide) (by kernel_rfl) ⟨rfl, by decide, by decide⟩ ?F
    intro w mg fa h Y G hmg0
    obtain ⟨K, KX, wb, c⟩ := Y
    have hmg : mg ("law" : PySem.Str) = some (.ref fa) := by
      have e : (HandSHeadRun.topDef (OpenLaw.row PySem.Challenge.rw_apartpaths_k21_piles_and_steps_refused).prog 61).name = ("law" : PySem.Str) := by kernel_rfl
      rw [← e]
      exact hmg0
    have Y : Ap.HdOk K h mg K21.lex K21.rows K21.body := ⟨KX, G, by rw [K21.facts_eq, K21.fns_eq]; exact c⟩
    obtain ⟨fd, hb, hF⟩ := K21.all_ok (P := (PySem.Challenge.rw_apartpaths_k21_piles_and_steps_refused).prog) (w := w) Y wb
    have e := hmg.symm.trans (Y.glo (x := "law") (by decide))
    cases e
    exact ⟨K, fd, _, _, Ap.f_law_k21, KX, hb, fun ns hl => Ap.k21_true ns hl, fun base _ _ => hF base⟩
